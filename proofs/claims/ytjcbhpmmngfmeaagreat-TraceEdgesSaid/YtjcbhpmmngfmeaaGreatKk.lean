/-
  Part 11 of the proof: how the calls of this program run, over values instead of memory, and what each function computes.
-/
import Derived.Test.YtjcbhpmmngfmeaaGreatKj
set_option maxRecDepth 100000
set_option linter.unusedVariables false
set_option linter.unusedSimpArgs false
set_option linter.unnecessarySimpa false
set_option linter.unusedSectionVars false
open List renaming mem_append→Wa,getD_eq_getElem?_getD→Wc,getElem?_eq_getElem→Wd,map_map→Wf,append_nil→Wg,replicate→Wh,map_congr_left→Wi,nil_append→Wj,getElem_mem→Wk,append_assoc→Wm,mem_reverse→Wn,mem_iff_getElem→Wo,all_cons→Wq,length_append→Wr,length_map→Ws,map_replicate→Wt,ext_getElem?→Wu,length_cons→Wv,length_nil→Ww,nodup_append→Wx,getElem_append_left→Wy,findIdx?_eq_some_iff_getElem→Wz,findIdx?_eq_none_iff→WA,filter_eq_self→WB,length_take→WD,take_length→WE,drop_of_length_le→WF,eq_nil_of_length_eq_zero→WG,length_filter_le→WH,length_range→WI,getElem?_map→WJ,take_of_length_le→WK
open Nat renaming zero_le→We,le_trans→Wl
open Bool renaming and_eq_true→Wp,false_eq_true→WC
namespace Go.Ab.Dm
def zoZ (P:List Nat) (m p:Nat):Prop:=∃A B,P=A++m::B∧p∈B
theorem zoZ.left {P:List Nat} {m p:Nat} (h:zoZ P m p) (L:List Nat):zoZ (L++P) m p:=by obtain⟨A,B,rfl,hp⟩:=h;exact⟨L++A,B,by simp,hp⟩
theorem zoZ.right {P:List Nat} {m p:Nat} (h:zoZ P m p) (R:List Nat):zoZ (P++R) m p:=by obtain⟨A,B,rfl,hp⟩:=h;exact⟨A,B++R,by simp,by simp[hp]⟩
theorem zoZ.last {P:List Nat} {m k:Nat} (h:m∈P):zoZ (P++[k]) m k:=by obtain⟨A,B,rfl⟩:=List.append_of_mem h;exact⟨A,B++[k],by simp,by simp⟩
structure Grew (E:Adj) (cs:List Nat) (s s':List Nat × List Nat) (P Q:List Nat):Prop where
 post:s'.2=s.2++P
 seen:s'.1=s.1++Q
 same:∀x,x∈P↔x∈Q
 nd:P.Nodup
 new:∀x∈P,x∉s.1
 closed:∀p∈P,∀c∈suc E p,c∈s'.1
 got:∀c∈cs,c∈s'.1
 reach:∀x∈P,∃c∈cs,RA E (fun _=>False) c x
 from':∀m∈P,m∈cs∨∃p,m∈suc E p∧zoZ P m p
theorem RA.trans {E:Adj} {X:Nat→Prop} {a b c:Nat} (h1:RA E X a b) (h2:RA E X b c):RA E X a c:=by
 induction h2 with
 | refl=>exact h1
 | step _ h3 h4 ih=>exact ih.step h3 h4
theorem Grew.append {E:Adj} {cs ds:List Nat} {s s' s'':List Nat × List Nat} {P Q P2 Q2:List Nat} (h1:Grew E cs s s' P Q) (h2:Grew E ds s' s'' P2 Q2):Grew E (cs++ds) s s'' (P++P2) (Q++Q2):=by
 have sub:∀x,x∈s'.1→x∈s''.1:=fun x hx=>by rw[h2.seen];exact Wa.2 (.inl hx)
 refine⟨by rw[h2.post,h1.post,Wm],by rw[h2.seen,h1.seen,Wm],fun x=>by simp only[Wa,h1.same,h2.same],?_,fun x hx=>?_,fun p hp c hc=>?_,fun c hc=>?_,fun x hx=>?_,fun m hm=>?_⟩
 · rw[Wx];refine⟨h1.nd,h2.nd,fun a ha b hb e=>?_⟩;subst e;exact h2.new a hb (by rw[h1.seen];exact Wa.2 (.inr ((h1.same a).1 ha)))
 ·
  rcases Wa.1 hx with hx|hx
  · exact h1.new x hx
  · exact fun h=>h2.new x hx (by rw[h1.seen];exact Wa.2 (.inl h))
 ·
  rcases Wa.1 hp with hp|hp
  · exact sub c (h1.closed p hp c hc)
  · exact h2.closed p hp c hc
 ·
  rcases Wa.1 hc with hc|hc
  · exact sub c (h1.got c hc)
  · exact h2.got c hc
 ·
  rcases Wa.1 hx with hx|hx
  · obtain⟨c,hc,hr⟩:=h1.reach x hx;exact⟨c,by simp[hc],hr⟩
  · obtain⟨c,hc,hr⟩:=h2.reach x hx;exact⟨c,by simp[hc],hr⟩
 ·
  rcases Wa.1 hm with hm|hm
  ·
   rcases h1.from' m hm with h | ⟨p,hp,ha⟩
   · exact .inl (by simp[h])
   · exact .inr ⟨p,hp,ha.right _⟩
  ·
   rcases h2.from' m hm with h | ⟨p,hp,ha⟩
   · exact .inl (by simp[h])
   · exact .inr ⟨p,hp,ha.left _⟩
theorem zsv {E:Adj} {f m d:Nat} (hok:E.ok) (ih:∀(k:Nat) (s:List Nat × List Nat),DfsI E.length m d s→k < E.length→k∉s.1→∃P Q,Grew E [k] s (dfs E f k s) P Q) :
  ∀(cs:List Nat) (t:List Nat × List Nat),(∀c∈cs,c < E.length)→DfsI E.length m d t→∃P Q,Grew E cs t (cs.foldl (zcl E f) t) P Q
 | [],t,_,_=>⟨[],[],by simp,by simp,by simp,by simp,by simp,by simp,by simp,by simp,by simp⟩
 |
  c::cs,t,hc,ht=>by
  have hstep:DfsI E.length m d (zcl E f t c):=by
   unfold zcl;split
   · exact ht
   · exact znN hok f m d c t ht (hc c (by simp)) ‹_›
  obtain⟨P2,Q2,h2⟩:=zsv hok ih cs (zcl E f t c) (fun d hd=>hc d (by simp[hd])) hstep
  have h1:∃P Q,Grew E [c] t (zcl E f t c) P Q:=by
   unfold zcl;split
   · exact⟨[],[],by simp,by simp,by simp,by simp,by simp,by simp,by simpa,by simp,by simp⟩
   · exact ih c t ht (hc c (by simp)) ‹_›
  obtain⟨P,Q,h1⟩:=h1;exact⟨P++P2,Q++Q2,h1.append h2⟩
theorem zuK {E:Adj} (hok:E.ok):∀(f m d k:Nat) (s:List Nat × List Nat),DfsI E.length m d s→k < E.length→k∉s.1→E.length≤f+m→∃P Q,Grew E [k] s (dfs E f k s) (P++[k]) (k::Q)∧∀x,x∈P↔x∈Q
 |
  0,m,d,k,s,h,hk,hn,hf=>by
  have:=(h.nd.snoc hk hn).len;have:=h.le;simp at *;omega
 |
  f+1,m,d,k,s,h,hk,hn,hf=>by
  have hstart:DfsI E.length (m+1) (d+1) (s.1++[k],s.2):=⟨h.nd.snoc hk hn,by have:=h.le;simp;omega,by have:=h.post;simp;omega⟩
  obtain⟨P,Q,g⟩:=zsv (f:=f) (m:=m+1) (d:=d+1) hok (fun c t ht hc hn=>by
   obtain⟨P,Q,h,_⟩:=zuK hok f (m+1) (d+1) c t ht hc hn (by omega)
   exact⟨_,_,h⟩) (suc E k) (s.1++[k],s.2) (hok k) hstart
  refine⟨P,Q,?_,g.same⟩;rw[zqL]
  have hkP:k∉P:=fun hh=>g.new k hh (by simp)
  refine⟨by simp[g.post],by simp[g.seen],fun x=>?_,?_,fun x hx=>?_,fun p hp c hc=>?_,fun c hc=>?_,fun x hx=>?_,fun x hx=>?_⟩
  · simp only[Wa,List.mem_cons,List.not_mem_nil,or_false,g.same];exact Or.comm
  · rw[Wx];exact⟨g.nd,by simp,fun a ha b hb e=>by simp at hb;subst hb;subst e;exact hkP ha⟩
  ·
   rcases Wa.1 hx with hx|hx
   · exact fun hh=>g.new x hx (by simp[hh])
   · simp at hx;subst hx;exact hn
  ·
   rcases Wa.1 hp with hp|hp
   · exact g.closed p hp c hc
   · simp at hp;subst hp;exact g.got c hc
  · simp at hc;subst hc;show c∈_;rw[g.seen];simp
  ·
   rcases Wa.1 hx with hx|hx
   · obtain⟨c,hc,hr⟩:=g.reach x hx;exact⟨k,by simp,((RA.refl id).step hc id).trans hr⟩
   · simp at hx;subst hx;exact⟨x,by simp,.refl id⟩
  ·
   rcases Wa.1 hx with hx|hx
   ·
    rcases g.from' x hx with hh | ⟨p,hp,ha⟩
    · exact .inr ⟨k,hh,zoZ.last hx⟩
    · exact .inr ⟨p,hp,ha.right _⟩
   · exact .inl hx
theorem zyq {l:List Nat} (h:l.Nodup):l.reverse.Nodup:=by
 unfold List.Nodup at *;rw[List.pairwise_reverse]
 exact h.imp fun h e=>h e.symm
structure Rpo (E:Adj) (r:Nat) (l:List Nat):Prop where
 head:∃t,l=r::t
 nd:l.Nodup
 lt:∀x∈l,x < E.length
 mem:∀x,x∈l↔RA E (fun _=>False) r x
 pred:∀x∈l,x≠r→∃p A B,l=A++x::B∧p∈A∧x∈suc E p
theorem rpo {E:Adj} (hok:E.ok) {r:Nat} (hr:r < E.length):Rpo E r (dfs E E.length r ([],[])).2.reverse:=by
 have h0:DfsI E.length 0 0 ([],[]):=⟨⟨by simp,by simp⟩,by simp,by simp⟩;obtain⟨P,Q,g,hs⟩:=zuK hok E.length 0 0 r ([],[]) h0 hr (by simp) (by omega);have hp:=g.post;have hq:=g.seen;simp only[Wj] at hp hq;have hd:=znN hok E.length 0 0 r _ h0 hr (by simp)
 have hmem:∀x,x∈P++[r]↔RA E (fun _=>False) r x:=by
  intro x;constructor
  · intro hx;obtain⟨c,hc,hh⟩:=g.reach x hx;simp at hc;subst hc;exact hh
  ·
   intro hx
   induction hx with
   | refl=>simp
   |
    step _ h3 _ ih =>
    have:=g.closed _ ih _ h3;rw[hq] at this;exact(g.same _).2 this
 rw[hp];refine⟨⟨P.reverse,by simp⟩,zyq g.nd,fun x hx=>?_,fun x=>by rw[Wn];exact hmem x,fun x hx hxr=>?_⟩
 · rw[Wn] at hx;exact hd.nd.lt x (by rw[hq];exact(g.same x).1 hx)
 ·
  rw[Wn] at hx
  rcases g.from' x hx with hh | ⟨p,hp,A,B,he,hpB⟩
  · simp at hh;exact absurd hh hxr
  · exact⟨p,B.reverse,A.reverse,by rw[he];simp,by simpa using hpB,hp⟩
inductive Ch (T:Nat→Option Nat):Nat→Nat→Prop
 | refl (k:Nat):Ch T k k
 | up {k j x:Nat}:T k=some j→Ch T j x→Ch T k x
structure Lay (A:Adj) (r:Nat) (l:List Nat) (f:Nat→Nat):Prop where
 nd:l.Nodup
 root:r∈l
 pl0:l.idxOf r=0
 mem:∀x,x∈l↔RA A (fun _=>False) r x
 fm:∀k∈l,k≠r→f k∈l∧k∈suc A (f k)∧l.idxOf (f k) < l.idxOf k
section
variable {A:Adj} {r:Nat} {l:List Nat} {f:Nat→Nat} {T U:Nat→Option Nat}
def Pr (A:Adj) (l:List Nat) (p k:Nat):Prop:=p∈l∧k∈suc A p
structure WT (r:Nat) (l:List Nat) (T:Nat→Option Nat):Prop where
 root:T r=none
 up:∀k j,T k=some j→k∈l∧j∈l∧l.idxOf j < l.idxOf k∧(j=r∨T j≠none)
def Hd (r:Nat) (T:Nat→Option Nat) (k:Nat):Prop:=k=r∨T k≠none
def Fst (l:List Nat) (T:Nat→Option Nat) (j p q:Nat):Prop:=Ch T p q∧l.idxOf q < j∧∀q2,Ch T p q2→l.idxOf q2 < j→Ch T q q2
structure PassTo (A:Adj) (r:Nat) (l:List Nat) (T:Nat→Option Nat) (j:Nat) (U:Nat→Option Nat):Prop where
 wt:WT r l U
 old:∀v,(v∉l∨j≤l.idxOf v)→U v=T v
 new:∀k∈l,k≠r→l.idxOf k < j→∃c,U k=some c ∧
  ∀x,Ch U c x↔(∀p,Pr A l p k→l.idxOf p < l.idxOf k→Ch U p x)∧(∀p,Pr A l p k→l.idxOf k≤l.idxOf p→Hd r T p→∃q,Fst l T (l.idxOf k) p q∧Ch U q x)
end
section
variable {A:Adj} {r:Nat} {l:List Nat} {f:Nat→Nat} {T U V:Nat→Option Nat}
abbrev Pass (A:Adj) (r:Nat) (l:List Nat) (T U:Nat→Option Nat):Prop:=PassTo A r l T l.length U
inductive SA (r:Nat) (l:List Nat) (f:Nat→Nat) (a:Nat):Nat→Prop
 | refl:SA r l f a a
 | step {b:Nat}:b∈l→b≠r→SA r l f a (f b)→SA r l f a b
structure Gd (A:Adj) (r:Nat) (l:List Nat) (f:Nat→Nat) (T U:Nat→Option Nat):Prop where
 wt:WT r l T
 pass:Pass A r l T U
 anc:∀v y,v∈l→Hd r T v→Ch T v y→SA r l f y v
 mono:∀v y,v∈l→Hd r T v→Ch U v y→Ch T v y
def Dm (A:Adj) (r x k:Nat):Prop:=¬RA A (·=x) r k
def Sd (A:Adj) (r:Nat) (l:List Nat) (T:Nat→Option Nat):Prop:=∀k∈l,Hd r T k→∀x∈l,Dm A r x k→Ch T k x
structure DTree' (A:Adj) (r:Nat) (l:List Nat) (T:Nat→Option Nat):Prop where
 wt:WT r l T
 held:∀k∈l,k≠r→T k≠none
 ch:∀k∈l,∀x∈l,Ch T k x↔Dm A r x k
end
def IsN (x:Int):Nat→Prop:=fun y=>(y:Int)=x
structure FromI (E:Adj) (x:Int) (a i:Nat) (out:List Nat):Prop where
 nd:NdL E.length out
 root:a∈out
 sound:∀b∈out,RA E (IsN x) a b
 closed:∀j (h:j < out.length),j < i→∀c∈suc E out[j],(c:Int)≠x→c∈out
theorem ztI {x:Int} {out:List Nat} {c b:Nat}:b∈zer x out c↔b∈out∨(b=c∧(c:Int)≠x):=by
 unfold zer;split
 · rename_i h;simp only[Wa,List.mem_singleton];exact⟨fun h2=>h2.imp id (fun h3=>⟨h3,h.1⟩),fun h2=>h2.imp id (fun h3=>h3.1)⟩
 ·
  rename_i h;constructor
  · exact .inl
  ·
   rintro(h2 | ⟨rfl,h2⟩)
   · exact h2
   · exact Classical.byContradiction fun h3=>h ⟨h2,h3⟩
theorem zly {x:Int} {b:Nat}:∀ {cs out:List Nat},b∈cs.foldl (zer x) out↔b∈out∨(b∈cs∧(b:Int)≠x)
 | [],out=>by simp
 |
  c::cs,out=>by
  rw[List.foldl_cons,zly (cs:=cs),ztI];constructor
  ·
   rintro((h | ⟨rfl,h⟩) | ⟨h,h2⟩)
   · exact .inl h
   · exact .inr ⟨by simp,h⟩
   · exact .inr ⟨by simp[h],h2⟩
  ·
   rintro(h | ⟨h,h2⟩)
   · exact .inl (.inl h)
   ·
    rcases List.mem_cons.1 h with rfl|h
    · exact .inl (.inr ⟨rfl,h2⟩)
    · exact .inr ⟨h,h2⟩
theorem zuD {x:Int}:∀(cs out:List Nat),∃t,cs.foldl (zer x) out=out++t
 | [],out=>⟨[],by simp⟩
 |
  c::cs,out=>by
  obtain⟨t,ht⟩:=zuD (x:=x) cs (zer x out c);rw[List.foldl_cons,ht];unfold zer;split
  · exact⟨c::t,by simp⟩
  · exact⟨t,rfl⟩
theorem zvU {E:Adj} (hE:E.ok) {x:Int} {a:Nat}:∀(f i:Nat) (out:List Nat),FromI E x a i out→E.length≤f+i→∀b,b∈zuc E x f i out↔RA E (IsN x) a b:=by
 have fin:∀(i:Nat) (out:List Nat),FromI E x a i out→out.length≤i→∀b,b∈out↔RA E (IsN x) a b:=by
  intro i out h hl b;refine⟨h.sound b,fun hb=>?_⟩
  induction hb with
  | refl=>exact h.root
  |
   step _ h2 h3 ih =>
   obtain⟨j,hj,he⟩:=Wo.1 ih;exact h.closed j hj (by omega) _ (by rw[he];exact h2) h3
 intro f
 induction f with
 |
  zero =>
  intro i out h hf b;exact fin i out h (by have:=h.nd.len;omega) b
 |
  succ f ih =>
  intro i out h hf b;simp only[zuc]
  by_cases hi:i < out.length
  ·
   rw[Wd hi];simp only;refine ih (i+1) _ ⟨h.nd.fold (fun c hc=>hE _ c hc),zly.2 (.inl h.root),fun b hb=>?_,fun j hj hji c hc hcx=>?_⟩ (by omega) b
   ·
    rcases zly.1 hb with hb | ⟨hb,hbx⟩
    · exact h.sound b hb
    · exact(h.sound _ (Wk hi)).step hb hbx
   ·
    obtain⟨t,ht⟩:=zuD (x:=x) (suc E out[i]) out
    have hjl:j < out.length:=by omega
    have e:((suc E out[i]).foldl (zer x) out)[j]=out[j]:=by simp only[ht];exact Wy hjl
    rw[e] at hc
    by_cases hje:j=i
    · subst hje;exact zly.2 (.inr ⟨hc,hcx⟩)
    · exact zly.2 (.inl (h.closed j hjl (by omega) c hc hcx))
  · rw[List.getElem?_eq_none (by omega)];exact fin i out h (by omega) b
theorem zx8 {E:Adj} (hE:E.ok) {a:Nat} (ha:a < E.length) {x:Int} {b:Nat}:b∈zwR E a x↔RA E (IsN x) a b:=by
 unfold zwR
 by_cases hx:(a:Int)=x
 ·
  rw[if_pos (.inl hx)];constructor
  · intro h;cases h
  ·
   intro h;exfalso
   induction h with
   | refl h=>exact h hx
   | step _ _ _ ih=>exact ih
 ·
  rw[if_neg (by omega)];refine zvU hE _ _ _ ⟨⟨by simp,fun b hb=>?_⟩,by simp,fun b hb=>?_,fun j _ h=>absurd h (Nat.not_lt_zero _)⟩ (by omega) b
  · simp at hb;omega
  · simp at hb;subst hb;exact .refl hx
theorem zwm {E:Adj} (hE:E.ok) {a:Nat} (ha:a < E.length) {b:Nat}:b∈zwR E a (-1)↔RA E (fun _=>False) a b:=by
 rw[zx8 hE ha]
 have:IsN (-1)=fun _=>False:=by
  funext y
  refine eq_false fun h=>?_
  unfold IsN at h;omega
 rw[this]
end Go.Ab.Dm
namespace Go.Ab.Dm
open Go.RowKit Go.Proofs
structure PredFn (fv:AV) (p:Int→Bool):Prop where
 ex:∃f caps,fv=.fn (.func f) caps∧zc0 Tryz.prog f=true∧zr caps=true∧∀x,zl Tryz.prog f ([.int .i64 x]++caps) (·=.bool (p x))
theorem zcG:∀ {l:List AV},zr l=true→l.all AV.flat=true
 | [],_=>rfl
 |
  a::l,h=>by
  simp only[zr,Wp] at h;simp only[Wq,Wp];refine⟨?_,zcG h.2⟩
  cases a<;>first|rfl|exact absurd h.1 (by simp[AV.flat0])
theorem zpE {fv:AV} {p:Int→Bool} (hp:PredFn fv p) {x:Int} {H:AH} {nx:Nat} {k:AV→AH→Nat→Prop} (hk:k (.bool (p x)) H nx):zkr Tryz.prog fv [.int .i64 x] H nx k:=by obtain⟨f,caps,rfl,hg,hf,hx⟩:=hp.ex;rw[zhy];exact⟨hg,zc (zg (hx x) (by simp only[List.cons_append,Wj,Wq,AV.flat,AV.flat0,Bool.true_and];exact zcG hf)) hk⟩
theorem zqG {fv:AV} {p:Int→Bool} (hp:PredFn fv p) {H H2:AH} {σ:Nat→Nat→Option (Nat × Nat × Nat)} {D:Nat→Nat→Prop} {t:Bool}:Vw H H2 σ D t fv fv:=by
 obtain⟨f,caps,rfl,hg,hf,hx⟩:=hp.ex
 refine .fn _ _ _ _ rfl fun i a b h1 h2=>?_
 rw[h1] at h2;cases h2;exact zcx (zbx hf h1)
theorem zkx (l:List Int) (fv:AV) (p:Int→Bool) (hp:PredFn fv p):zl Tryz.prog zaj [za l,fv] (·=.int .i64 (match l.findIdx? p with|some i=>(i:Int)|none => -1)):=by
 refine fn_x zcC rfl ?_;unfold zbv;have hB:=hBig
 (repeat first|simp(disch:=try exact dis1) only[evD,Nat.reduceBEq,Nat.reduceAdd,Nat.reduceLeDiff,za]|with_reducible first|intro _|refine aJ ?_)
 refine zk (fun i:Nat=>([(0,za l),(1,fv),(7,.int .i64 l.length),(8,.int .i64 i)],[])) 0 (fun i=>i≤l.length∧∀j (h:j < l.length),j < i→p l[j]=false) (fun i=>l.length - i) 0 ⟨We _,fun j _ h=>by omega⟩ (Ent.keep rfl fin5) ?_;intro i ⟨hi,hno⟩ wf;unfold zbf
 (repeat first|simp(disch:=try exact dis1) only[evD,Nat.reduceBEq,Nat.reduceAdd,Nat.reduceLeDiff,za]|with_reducible first|intro _|refine aJ ?_)
 (refine zy (fun h=>?_) (fun h=>?_))<;>(try simp only[dcd] at h)
 ·
  have hi':i < l.length:=by omega
  (repeat first|simp(disch:=try exact dis1) only[evD,Nat.reduceBEq,Nat.reduceAdd,Nat.reduceLeDiff,zm hi']|with_reducible first|intro _|refine aJ ?_)
  refine zpE hp ?_
  (repeat first|simp(disch:=try exact dis1) only[evD,Nat.reduceBEq,Nat.reduceAdd,Nat.reduceLeDiff]|with_reducible first|intro _|refine aJ ?_)
  (refine zy (fun h2=>?_) (fun h2=>?_))<;>(try simp only[dcd] at h2)
  ·
   (repeat first|simp(disch:=try exact dis1) only[evD,Nat.reduceBEq,Nat.reduceAdd,Nat.reduceLeDiff,zad]|with_reducible first|intro _|refine aJ ?_)
   have e:l.findIdx? p=some i:=by rw[Wz];exact⟨hi',h2,fun j hj=>by rw[hno j (by omega) hj];simp⟩
   rw[e];exact⟨_,.int _ _ _,rfl⟩
  ·
   (repeat first|simp(disch:=try exact dis1) only[evD,Nat.reduceBEq,Nat.reduceAdd,Nat.reduceLeDiff]|with_reducible first|intro _|refine aJ ?_)
   refine⟨i+1,⟨by omega,fun j hj hji=>?_⟩,by omega,Ent.keep rfl fin5⟩
   by_cases hje:j=i
   · subst hje;simpa using h2
   · exact hno j hj (by omega)
 ·
  unfold zbi
  (repeat first|simp(disch:=try exact dis1) only[evD,Nat.reduceBEq,Nat.reduceAdd,Nat.reduceLeDiff,zad]|with_reducible first|intro _|refine aJ ?_)
  have e:l.findIdx? p=none:=by rw[WA];intro x hx;obtain⟨j,hj,rfl⟩:=Wo.1 hx;exact hno j hj (by omega)
  rw[e];exact⟨_,.int _ _ _,rfl⟩
def cur (K l:List Int):List Int:=K++l.drop K.length
theorem zwf {K l:List Int} (h:K.length≤l.length):(cur K l).length=l.length:=by simp[cur];omega
theorem zAY {K l:List Int} {j:Nat} (h:K.length≤j) (hj:j < l.length):(cur K l)[j]? = some l[j]:=by unfold cur;rw[List.getElem?_append_right h,List.getElem?_drop,show K.length+(j - K.length)=j by omega,Wd hj]
theorem zzI {K l:List Int} {j:Nat} (h:K.length≤j) (hj:j < l.length):((cur K l).map cI).getD j []=[.int .i64 l[j]]:=by simp[Wc,zAY h hj]
theorem zBb {K l:List Int} {v:Int} (h:K.length < l.length):(cur K l).set K.length v=cur (K++[v]) l:=by unfold cur;rw[List.set_append_right _ _ (Nat.le_refl _),Nat.sub_self,List.drop_eq_getElem_cons h,List.set_cons_zero];simp
theorem zza {K l:List Int} {v:Int} (h:K.length < l.length):((cur K l).map cI).set K.length [.int .i64 v]=(cur (K++[v]) l).map cI:=by rw[←zBb h,List.map_set]
theorem zj0 (l:List Int) (g:Nat) (fv:AV) (p:Int→Bool) (hp:PredFn fv p) (hl:l.length≤1000) :
  z7 Tryz.prog zbw [.own 0 0 g 0 l.length,fv] [(0,.row 1 (l.map cI) g)] 1
   (fun v H nx=>∃m,v=.own 0 0 g 0 (l.filter fun x => !p x).length∧H=[(0,.row 1 (((l.filter fun x => !p x)++m).map cI) g)]∧nx=1):=by
 refine z8 (fn_x zfP rfl ?_);unfold zcr;have hB:=hBig
 (repeat first|simp(disch:=try exact dis1) only[evD,Nat.reduceBEq,Nat.reduceAdd,Nat.reduceLeDiff]|with_reducible first|intro _|refine aJ ?_)
 refine zc (zM (D:=fun r _=>r=0) (zkx l fv p hp) (.cons (zaL rfl rfl (by omega)) (.cons (zqG hp) .nil)) (.inl rfl)) ?_
 cases hf:l.findIdx? p with
 |
  none =>
  have e:l.filter (fun x => !p x)=l:=by rw[WB];intro x hx;rw[WA] at hf;simp[hf x hx]
  (repeat first|simp(disch:=try exact dis1) only[evD,Nat.reduceBEq,Nat.reduceAdd,Nat.reduceLeDiff,zbs]|with_reducible first|intro _|refine aJ ?_)
  refine⟨.own 0 0 g 0 l.length,[(0,.row 1 (l.map cI) g)],1,?_,[],by rw[e],by rw[e,Wg],rfl⟩;exact(Ent.tabB [(0,0,0)] [] rfl rfl rfl (by(try simp only[evWB,Nat.reduceBEq,Nat.reduceAdd,Nat.reduceSub,Nat.reduceLeDiff,Nat.reduceLT,implies_true])<;>exact fin4) (by(try simp only[evWB,Nat.reduceBEq,Nat.reduceAdd,Nat.reduceSub,Nat.reduceLeDiff,Nat.reduceLT,implies_true])<;>exact fin4))
 |
  some i0 =>
  rw[Wz] at hf;obtain⟨hi0,hpi,hno⟩:=hf
  (repeat first|simp(disch:=try exact dis1) only[evD,Nat.reduceBEq,Nat.reduceAdd,Nat.reduceLeDiff]|with_reducible first|intro _|refine aJ ?_)
  (refine zy (fun h=>?_) (fun h=>?_))<;>(try simp only[dcd] at h)
  · omega
  (repeat first|simp(disch:=try exact dis1) only[evD,Nat.reduceBEq,Nat.reduceAdd,Nat.reduceLeDiff]|with_reducible first|intro _|refine aJ ?_)
  let K:=fun j=>(l.take j).filter fun x => !p x
  have hK0:K (i0+1)=l.take i0:=by
   simp only[K];rw[zdl hi0,hpi];simp only[Bool.not_true,WC,if_false,Wg];rw[WB];intro x hx;obtain⟨j,hj,rfl⟩:=Wo.1 hx;simp only[WD] at hj;rw[List.getElem_take]
   simpa using hno j (by omega)
  have hKl:∀j,i0 < j→j≤l.length→(K j).length < j:=by
   intro j h1 h2
   induction j with
   | zero=>omega
   |
    succ j ih =>
    by_cases hj:j=i0
    · subst hj;rw[hK0];simp;omega
    ·
     have:=ih (by omega) (by omega);simp only[K] at this ⊢;rw[zdl (show j < l.length by omega)];rw[Wr]
     split<;>simp<;>omega
  have hstart:cur (K (i0+1)) l=l:=by rw[hK0];unfold cur;rw[WD,Nat.min_eq_left (by omega),List.take_append_drop]
  have hK0l:(K (i0+1)).length=i0:=by rw[hK0];simp;omega
  refine zk (fun j:Nat=>([(0,.own 0 0 g 0 l.length),(1,fv),(5,.int .i64 (K j).length),(6,.int .i64 j)],[(0,.row 1 ((cur (K j) l).map cI) g)])) 1 (fun j=>i0 < j∧j≤l.length) (fun j=>l.length - j) (i0+1) ⟨by omega,by omega⟩ (Ent.tabB [(0,0,0)] [] rfl rfl rfl ?_ ?_) ?_
  · simp only[evWB,Nat.reduceBEq,Nat.reduceAdd,Nat.reduceSub,Nat.reduceLeDiff,Nat.reduceLT,implies_true,hstart]
  · simp only[evWB,Nat.reduceBEq,Nat.reduceAdd,Nat.reduceSub,Nat.reduceLeDiff,Nat.reduceLT,implies_true,hK0l];exact zqG hp
  intro j ⟨hj1,hj2⟩ wf;have hkl:=hKl j hj1 hj2;unfold zbZ
  (repeat first|simp(disch:=try exact dis1) only[evD,Nat.reduceBEq,Nat.reduceAdd,Nat.reduceLeDiff]|with_reducible first|intro _|refine aJ ?_)
  (refine zy (fun h2=>?_) (fun h2=>?_))<;>(try simp only[dcd] at h2)
  ·
   have hj':j < l.length:=by omega
   have hst:K (j+1)=K j++if (!p l[j])=true then [l[j]] else []:=zdl hj'
   have hkl2:=hKl (j+1) (by omega) (by omega);have hcl:=zwf (K:=K j) (l:=l) (by omega)
   (repeat first|simp(disch:=try exact dis1) only[evD,Nat.reduceBEq,Nat.reduceAdd,Nat.reduceLeDiff,zzI (K:=K j) (l:=l) (by omega) hj']|with_reducible first|intro _|refine aJ ?_)
   refine zpE hp ?_
   (repeat first|simp(disch:=try exact dis1) only[evD,Nat.reduceBEq,Nat.reduceAdd,Nat.reduceLeDiff]|with_reducible first|intro _|refine aJ ?_)
   (refine zy (fun h3=>?_) (fun h3=>?_))<;>(try simp only[dcd] at h3)
   ·
    rw[h3] at hst;simp only[Bool.not_false,if_true] at hst
    (repeat first|simp(disch:=try exact dis1) only[evD,Nat.reduceBEq,Nat.reduceAdd,Nat.reduceLeDiff]|with_reducible first|intro _|refine aJ ?_)
    rw[zza (by omega),←hst];exact⟨j+1,⟨by omega,by omega⟩,by omega,Ent.tabB [(0,0,0)] [] rfl rfl rfl (by simp only[evWB,Nat.reduceBEq,Nat.reduceAdd,Nat.reduceSub,Nat.reduceLeDiff,Nat.reduceLT,implies_true]) (by simp only[evWB,Nat.reduceBEq,Nat.reduceAdd,Nat.reduceSub,Nat.reduceLeDiff,Nat.reduceLT,implies_true,hst];exact zqG hp)⟩
   ·
    have h3':p l[j]=true:=by simpa using h3
    rw[h3'] at hst;simp only[Bool.not_true,WC,if_false,Wg] at hst
    (repeat first|simp(disch:=try exact dis1) only[evD,Nat.reduceBEq,Nat.reduceAdd,Nat.reduceLeDiff]|with_reducible first|intro _|refine aJ ?_)
    rw[←hst];exact⟨j+1,⟨by omega,by omega⟩,by omega,Ent.tabB [(0,0,0)] [] rfl rfl rfl (by simp only[evWB,Nat.reduceBEq,Nat.reduceAdd,Nat.reduceSub,Nat.reduceLeDiff,Nat.reduceLT,implies_true]) (by simp only[evWB,Nat.reduceBEq,Nat.reduceAdd,Nat.reduceSub,Nat.reduceLeDiff,Nat.reduceLT,implies_true];exact zqG hp)⟩
  ·
   obtain rfl:j=l.length:=by omega
   have hKe:K l.length=l.filter fun x => !p x:=by simp only[K];rw[WE]
   have hcl:=zwf (K:=K l.length) (l:=l) (by omega);unfold zb1
   have hz:(((l.length:Int) - (K l.length).length).toNat)=l.length - (K l.length).length:=by omega
   have hclr:((cur (K l.length) l).map cI).take (K l.length).length++Wh (l.length - (K l.length).length) [AV.int .i64 0]++((cur (K l.length) l).map cI).drop ((K l.length).length+(l.length - (K l.length).length))=(K l.length++Wh (l.length - (K l.length).length) 0).map cI:=by
    rw[WF (by rw[Ws,hcl];omega),Wg,←List.map_take,List.map_append,Wt]
    congr 2
    unfold cur;rw[List.take_append_of_le_length (Nat.le_refl _),WE]
   (repeat first|simp(disch:=try exact dis1) only[evD,Nat.reduceBEq,Nat.reduceAdd,Nat.reduceLeDiff,zbs,hz,hclr]|with_reducible first|intro _|refine aJ ?_)
   refine⟨.own 0 0 g 0 (l.filter fun x => !p x).length,[(0,.row 1 (((l.filter fun x => !p x)++Wh (l.length - (K l.length).length) 0).map cI) g)],1,?_,_,rfl,rfl,rfl⟩;rw[←hKe];exact(Ent.tabB [(0,0,0)] [] rfl rfl rfl (by(try simp only[evWB,Nat.reduceBEq,Nat.reduceAdd,Nat.reduceSub,Nat.reduceLeDiff,Nat.reduceLT,implies_true,Wt])<;>exact fin4) (by(try simp only[evWB,Nat.reduceBEq,Nat.reduceAdd,Nat.reduceSub,Nat.reduceLeDiff,Nat.reduceLT,implies_true,Wt])<;>exact fin4))
theorem zxU (g:Gr) (x:Int):zl Tryz.prog zce [.int .i64 x,.iptr 2 fun j=>g.cells.getD j .undef] (·=.bool (!ziA g.blocks.length x)):=by
 refine fn_x zjW rfl ?_;unfold zfv
 (repeat first|simp(disch:=try exact dis1) only[evD,Nat.reduceBEq,Nat.reduceAdd,Nat.reduceLeDiff,Gr.cells]|with_reducible first|intro _|refine aJ ?_)
 generalize h:decide (x < 0)=hb;cases hb<;>simp only[decide_eq_true_eq,decide_eq_false_iff_not,ne_eq,Classical.not_not] at h
 ·
  (repeat first|simp(disch:=try exact dis1) only[evD,Nat.reduceBEq,Nat.reduceAdd,Nat.reduceLeDiff,zc3]|with_reducible first|intro _|refine aJ ?_)
  refine⟨_,.bool _ _,?_⟩
  have h0:0≤x:=by omega
  by_cases h2:x < g.blocks.length
  ·
   have:¬(g.blocks.length:Int)≤x:=by omega
   simp[ziA,h0,h2,this]
  ·
   have:(g.blocks.length:Int)≤x:=by omega
   simp[ziA,h0,h2,this]
 ·
  (repeat first|simp(disch:=try exact dis1) only[evD,Nat.reduceBEq,Nat.reduceAdd,Nat.reduceLeDiff,zc3]|with_reducible first|intro _|refine aJ ?_)
  refine⟨_,.bool _ _,?_⟩;simp[ziA,h]
theorem zv2 (g:Gr):PredFn (.fn (.func zce) [.iptr 2 fun j=>g.cells.getD j .undef]) (fun x => !ziA g.blocks.length x) :=
 ⟨_,_,rfl,by kernel_rfl,rfl,zxU g⟩
theorem slices_Clone_ok (l:List Int) (hl:l.length≤1000):z7 Tryz.prog zw [za l] [] 0 (fun v H nx=>v=.own 0 0 0 0 l.length∧H=[(0,.row 1 (l.map cI) 0)]∧nx=1):=by
 refine z8 (fn_x zbq rfl ?_);unfold zaE;have hB:=hBig
 have hel:∀H,zd2 1 (encL 1 (fun n:Int=>[AV.int .i64 n]) l) H=some (l.map fun n=>[AV.int .i64 n]):=fun H=>zpH (fun _ _=>rfl)
 (repeat first|simp(disch:=try exact dis1) only[evD,Nat.reduceBEq,Nat.reduceAdd,Nat.reduceLeDiff,za,zq9]|with_reducible first|intro _|refine aJ ?_)
 cases h0:(l.length == 0) with
 |
  true =>
  have e:l=[]:=WG (by simpa using h0);subst e
  (repeat first|simp(disch:=try exact dis1) only[evD,Nat.reduceBEq,Nat.reduceAdd,Nat.reduceLeDiff]|with_reducible first|intro _|refine aJ ?_)
  rename_i b;cases b
  ·
   (repeat first|simp(disch:=try exact dis1) only[evD,Nat.reduceBEq,Nat.reduceAdd,Nat.reduceLeDiff,hel,zF]|with_reducible first|intro _|refine aJ ?_)
   refine⟨.own 0 0 0 0 0,[(0,.row 1 [] 0)],1,?_,rfl,rfl,rfl⟩;exact(Ent.tab [(0,1,1)] [] rfl (by(try simp only[evWB,Nat.reduceBEq,Nat.reduceAdd,Nat.reduceSub,Nat.reduceLeDiff,Nat.reduceLT,implies_true])<;>exact fin4) (by(try simp only[evWB,Nat.reduceBEq,Nat.reduceAdd,Nat.reduceSub,Nat.reduceLeDiff,Nat.reduceLT,implies_true])<;>exact fin4))
  ·
   (repeat first|simp(disch:=try exact dis1) only[evD,Nat.reduceBEq,Nat.reduceAdd,Nat.reduceLeDiff,zF]|with_reducible first|intro _|refine aJ ?_)
   refine⟨.own 0 0 0 0 0,[(0,.row 1 [] 0)],1,?_,rfl,rfl,rfl⟩;exact(Ent.tab [(0,1,0)] [] rfl (by(try simp only[evWB,Nat.reduceBEq,Nat.reduceAdd,Nat.reduceSub,Nat.reduceLeDiff,Nat.reduceLT,implies_true])<;>exact fin4) (by(try simp only[evWB,Nat.reduceBEq,Nat.reduceAdd,Nat.reduceSub,Nat.reduceLeDiff,Nat.reduceLT,implies_true])<;>exact fin4))
 |
  false =>
  (repeat first|simp(disch:=try exact dis1) only[evD,Nat.reduceBEq,Nat.reduceAdd,Nat.reduceLeDiff,hel,zF]|with_reducible first|intro _|refine aJ ?_)
  refine⟨.own 0 0 0 0 l.length,[(0,.row 1 (l.map cI) 0)],1,?_,rfl,rfl,rfl⟩;exact(Ent.tab [(0,1,1)] [] rfl (by(try simp only[evWB,Nat.reduceBEq,Nat.reduceAdd,Nat.reduceSub,Nat.reduceLeDiff,Nat.reduceLT,implies_true])<;>exact fin4) (by(try simp only[evWB,Nat.reduceBEq,Nat.reduceAdd,Nat.reduceSub,Nat.reduceLeDiff,Nat.reduceLT,implies_true])<;>exact fin4))
theorem zwQ {g:Gr} {k:Nat} (hk:k < g.blocks.length):zbF (suc g.E k)=za (g.blocks[k].targets.filter (ziA g.blocks.length)):=by
 rw[←zq0]
 congr 1
 simp only[suc,Gr.E,zm hk,Wf]
 conv=>rhs;rw[←List.map_id (List.filter _ _)]
 refine Wi fun x hx=>?_
 simp only[List.mem_filter,ziA,Wp,decide_eq_true_eq] at hx;simp only[Function.comp,id];omega
theorem zzo {H H2:AH} {σ:Nat→Nat→Option (Nat × Nat × Nat)} {D:Nat→Nat→Prop} {t:Bool} {r q g:Nat} {l m:List Int} (hD:D r q) (hg:H.get r q=some (.row 1 ((l++m).map cI) g)) (hb:l.length≤big) :
  Vw H H2 σ D t (.own r q g 0 l.length) (za l):=by
 refine .frz t r q g 0 l.length 1 ((l++m).map cI) _ hD hg hb (by simp) (fun i j hi hj=>?_)
 obtain rfl:j=0:=by omega
 rw[Nat.zero_add,zm (show i < (l++m).length by simp;omega),zm hi,Wy hi];exact .int _ _ _
theorem zlE (g:Gr) (hg:g.small) (k:Nat) (hk:k < g.blocks.length):zl Tryz.prog zeF [.agg g.cells,.int .i64 k] (·=zbF (suc g.E k)):=by
 have htl:=hg.2 _ (Wk hk);rw[zwQ hk];refine fn_x zlb rfl ?_;unfold zhe;have hB:=hBig;have e:(g.blocks.map Blk.cells).getD k []=g.blocks[k].cells:=zfQ (Wd hk)
 (repeat first|simp(disch:=try exact dis1) only[evD,Nat.reduceBEq,Nat.reduceAdd,Nat.reduceLeDiff,Gr.cells,e,Blk.cells]|with_reducible first|intro _|refine aJ ?_)
 generalize hbk:g.blocks[k]=b at htl ⊢
 (refine zy (fun h=>?_) (fun h=>?_))<;>(try simp only[dcd] at h)
 ·
  (repeat first|simp(disch:=try exact dis1) only[evD,Nat.reduceBEq,Nat.reduceAdd,Nat.reduceLeDiff,zdU]|with_reducible first|intro _|refine aJ ?_)
  refine⟨_,?_,rfl⟩;have h0:b.stmts=[]:=WG (by omega)
  have e:b.targets=[]:=by simp[Blk.targets,h0]
  rw[e];exact zaL (l:=[]) trivial rfl (We _)
 have h0:0 < b.stmts.length:=by omega
 obtain⟨s,hs⟩:∃s,b.stmts[b.stmts.length - 1]? = some s:=⟨_,Wd (by omega)⟩
 have ht:b.targets=if s.op=6 then [s.next] else if s.op=7 then [s.next,s.els] else if s.op=8 then s.cases else []:=by
  have:b.stmts.getLast? = some s:=by rw[List.getLast?_eq_getElem?,hs]
  simp[Blk.targets,this]
 have e2:(b.stmts.map Stm.cells).getD ((b.stmts.length:Int) - 1).toNat []=s.cells:=by rw[show ((b.stmts.length:Int) - 1).toNat=b.stmts.length - 1 by omega];exact zfQ hs
 (repeat first|simp(disch:=try exact dis1) only[evD,Nat.reduceBEq,Nat.reduceAdd,Nat.reduceLeDiff,e2,Stm.cells]|with_reducible first|intro _|refine aJ ?_)
 refine zgc (fun _:Unit=>([(2,.iptr 2 fun j=>g.cells.getD j .undef),(7,.own 0 0 0 0 b.targets.length)],[(0,.row 1 (b.targets.map cI) 0)])) 1 (fun _=>True) ?_ ?_
 ·
  (repeat first|simp(disch:=try exact dis1) only[evD,Nat.reduceBEq,Nat.reduceAdd,Nat.reduceLeDiff]|with_reducible first|intro _|refine aJ ?_)
  (refine zy (fun h=>?_) (fun h=>?_))<;>(try simp only[dcd] at h)
  ·
   rw[if_pos h] at ht
   (repeat first|simp(disch:=try exact dis1) only[evD,Nat.reduceBEq,Nat.reduceAdd,Nat.reduceLeDiff]|with_reducible first|intro _|refine aJ ?_)
   refine⟨(),?_⟩;rw[ht];exact(Ent.tab [(0,3,0)] [] rfl (by(try simp only[evWB,Nat.reduceBEq,Nat.reduceAdd,Nat.reduceSub,Nat.reduceLeDiff,Nat.reduceLT,implies_true,Gr.cells])<;>exact fin4) (by(try simp only[evWB,Nat.reduceBEq,Nat.reduceAdd,Nat.reduceSub,Nat.reduceLeDiff,Nat.reduceLT,implies_true,Gr.cells])<;>exact fin4))
  ·
   rw[if_neg h] at ht
   (repeat first|simp(disch:=try exact dis1) only[evD,Nat.reduceBEq,Nat.reduceAdd,Nat.reduceLeDiff]|with_reducible first|intro _|refine aJ ?_)
   (refine zy (fun h=>?_) (fun h=>?_))<;>(try simp only[dcd] at h)
   ·
    rw[if_pos h] at ht
    (repeat first|simp(disch:=try exact dis1) only[evD,Nat.reduceBEq,Nat.reduceAdd,Nat.reduceLeDiff]|with_reducible first|intro _|refine aJ ?_)
    refine⟨(),?_⟩;rw[ht];exact(Ent.tab [(0,3,0)] [] rfl (by(try simp only[evWB,Nat.reduceBEq,Nat.reduceAdd,Nat.reduceSub,Nat.reduceLeDiff,Nat.reduceLT,implies_true,Gr.cells])<;>exact fin4) (by(try simp only[evWB,Nat.reduceBEq,Nat.reduceAdd,Nat.reduceSub,Nat.reduceLeDiff,Nat.reduceLT,implies_true,Gr.cells])<;>exact fin4))
   ·
    rw[if_neg h] at ht
    (repeat first|simp(disch:=try exact dis1) only[evD,Nat.reduceBEq,Nat.reduceAdd,Nat.reduceLeDiff]|with_reducible first|intro _|refine aJ ?_)
    (refine zy (fun h=>?_) (fun h=>?_))<;>(try simp only[dcd] at h)
    ·
     rw[if_pos h] at ht
     (repeat first|simp(disch:=try exact dis1) only[evD,Nat.reduceBEq,Nat.reduceAdd,Nat.reduceLeDiff]|with_reducible first|intro _|refine aJ ?_)
     refine zbr [] 0 _ (slices_Clone_ok s.cases (by rw[←ht];exact htl)) rfl rfl (by(try simp only[evWB,Nat.reduceBEq,Nat.reduceAdd,Nat.reduceSub,Nat.reduceLeDiff,Nat.reduceLT,implies_true])<;>exact fin4) (by(try simp only[evWB,Nat.reduceBEq,Nat.reduceAdd,Nat.reduceSub,Nat.reduceLeDiff,Nat.reduceLT,implies_true])<;>exact fin4) ?_;rintro v H' nx' ⟨rfl,rfl,rfl⟩
     (repeat first|simp(disch:=try exact dis1) only[evD,Nat.reduceBEq,Nat.reduceAdd,Nat.reduceLeDiff]|with_reducible first|intro _|refine aJ ?_)
     refine⟨(),?_⟩;rw[ht];exact(Ent.tab [(0,3,0)] [] rfl (by(try simp only[evWB,Nat.reduceBEq,Nat.reduceAdd,Nat.reduceSub,Nat.reduceLeDiff,Nat.reduceLT,implies_true,Gr.cells])<;>exact fin4) (by(try simp only[evWB,Nat.reduceBEq,Nat.reduceAdd,Nat.reduceSub,Nat.reduceLeDiff,Nat.reduceLT,implies_true,Gr.cells])<;>exact fin4))
    ·
     rw[if_neg h] at ht
     (repeat first|simp(disch:=try exact dis1) only[evD,Nat.reduceBEq,Nat.reduceAdd,Nat.reduceLeDiff]|with_reducible first|intro _|refine aJ ?_)
     refine⟨(),?_⟩;rw[ht];exact(Ent.tab [(0,2,0)] [] rfl (by(try simp only[evWB,Nat.reduceBEq,Nat.reduceAdd,Nat.reduceSub,Nat.reduceLeDiff,Nat.reduceLT,implies_true,Gr.cells])<;>exact fin4) (by(try simp only[evWB,Nat.reduceBEq,Nat.reduceAdd,Nat.reduceSub,Nat.reduceLeDiff,Nat.reduceLT,implies_true,Gr.cells])<;>exact fin4))
 ·
  rintro _ _ _;unfold zeQ
  (repeat first|simp(disch:=try exact dis1) only[evD,Nat.reduceBEq,Nat.reduceAdd,Nat.reduceLeDiff]|with_reducible first|intro _|refine aJ ?_)
  refine zbr [(0,0,0)] 1 _ (zj0 b.targets 0 _ _ (zv2 g) htl) rfl rfl (by simp only[evWB,Nat.reduceBEq,Nat.reduceAdd,Nat.reduceSub,Nat.reduceLeDiff,Nat.reduceLT,implies_true]) (by simp only[evWB,Nat.reduceBEq,Nat.reduceAdd,Nat.reduceSub,Nat.reduceLeDiff,Nat.reduceLT,implies_true]) ?_;rintro v H' nx' ⟨m,rfl,rfl,rfl⟩
  (repeat first|simp(disch:=try exact dis1) only[evD,Nat.reduceBEq,Nat.reduceAdd,Nat.reduceLeDiff,zdU]|with_reducible first|intro _|refine aJ ?_)
  refine⟨_,?_,rfl⟩;have:=WH (ziA g.blocks.length) b.targets
  try simp only[Bool.not_not]
  exact zzo (l:=b.targets.filter (ziA g.blocks.length)) (m:=m) trivial rfl (by omega)
def aLL (E:Adj) (n k:Nat):List (List AV):=(List.range n).map fun i=>[if i < k then zbF (suc E i) else .nilsl]
theorem zBO {E:Adj} {n k:Nat}:(aLL E n k).length=n:=by simp[aLL]
theorem zuA {E:Adj} {n:Nat}:aLL E n 0=Wh n [.nilsl]:=by unfold aLL;simp only[Nat.not_lt_zero,if_false];rw[List.map_const',WI]
theorem zBk {E:Adj} {n k:Nat}:(aLL E n k).set k [zbF (suc E k)]=aLL E n (k+1):=by
 unfold aLL;rw[zdH]
 refine Wi fun i hi=>?_
 unfold updF;split
 · rename_i h;subst h;rw[if_pos (by omega)]
 ·
  show [if i < k then zbF (suc E i) else AV.nilsl]=_
  by_cases h:i < k
  · rw[if_pos h,if_pos (by omega)]
  · rw[if_neg h,if_neg (by omega)]
theorem zuH {E:Adj} {n k:Nat}:zu (aLL E n k):=by
 intro c hc;obtain⟨i,_,rfl⟩:=List.mem_map.1 hc
 split<;>rfl
theorem zAR {E:Adj} {n:Nat} (hn:E.length=n):aLL E n n=E.map cNs:=by
 subst hn;apply Wu;intro i;unfold aLL
 by_cases hi:i < E.length
 · simp[hi,suc,Wc]
 · simp[hi]
theorem zmO (g:Gr) (hg:g.small):zl Tryz.prog zgC [.agg g.cells] (·=zmM g.E):=by
 refine fn_x zm3 rfl ?_;unfold ziz;have hB:=hBig;have hn:=hg.1;have hlen:=g.E_len
 (repeat first|simp(disch:=try exact dis1) only[evD,Nat.reduceBEq,Nat.reduceAdd,Nat.reduceLeDiff,Gr.cells]|with_reducible first|intro _|refine aJ ?_)
 refine zk (fun k:Nat=>([(1,encP 2 g.cells),(3,.own 0 0 0 0 g.blocks.length),(11,.int .i64 g.blocks.length),(12,.int .i64 k)],[(0,.row 1 (aLL g.E g.blocks.length k) 0)])) 1 (fun k=>k≤g.blocks.length) (fun k=>g.blocks.length - k) 0 (We _) (Ent.tab [(0,1,0)] [] rfl (by(try simp only[evWB,Nat.reduceBEq,Nat.reduceAdd,Nat.reduceSub,Nat.reduceLeDiff,Nat.reduceLT,implies_true,Gr.cells,zuA])<;>exact fin4) (by(try simp only[evWB,Nat.reduceBEq,Nat.reduceAdd,Nat.reduceSub,Nat.reduceLeDiff,Nat.reduceLT,implies_true,Gr.cells,zuA])<;>exact fin4)) ?_;intro k hk wf;unfold zgj
 (repeat first|simp(disch:=try exact dis1) only[evD,Nat.reduceBEq,Nat.reduceAdd,Nat.reduceLeDiff,encP,Gr.cells]|with_reducible first|intro _|refine aJ ?_)
 (refine zy (fun h=>?_) (fun h=>?_))<;>(try simp only[dcd] at h)
 ·
  (repeat first|simp(disch:=try exact dis1) only[evD,Nat.reduceBEq,Nat.reduceAdd,Nat.reduceLeDiff,Gr.two]|with_reducible first|intro _|refine aJ ?_)
  refine zc (zg (zlE g hg k (by omega)) rfl) ?_
  (repeat first|simp(disch:=try exact dis1) only[evD,Nat.reduceBEq,Nat.reduceAdd,Nat.reduceLeDiff,zBO]|with_reducible first|intro _|refine aJ ?_)
  have e:(aLL g.E g.blocks.length k).set k (zbF (suc g.E k)).cells=aLL g.E g.blocks.length (k+1):=zBk;refine⟨⟨by omega,rfl,rfl⟩,?_⟩;rw[e]
  (repeat first|simp(disch:=try exact dis1) only[evD,Nat.reduceBEq,Nat.reduceAdd,Nat.reduceLeDiff]|with_reducible first|intro _|refine aJ ?_)
  exact⟨k+1,by omega,by omega,(Ent.tab [(0,0,0)] [] rfl (by(try simp only[evWB,Nat.reduceBEq,Nat.reduceAdd,Nat.reduceSub,Nat.reduceLeDiff,Nat.reduceLT,implies_true,Gr.cells,zh1 zuH])<;>exact fin4) (by(try simp only[evWB,Nat.reduceBEq,Nat.reduceAdd,Nat.reduceSub,Nat.reduceLeDiff,Nat.reduceLT,implies_true,Gr.cells,zh1 zuH])<;>exact fin4))⟩
 ·
  obtain rfl:k=g.blocks.length:=by omega
  unfold zf8
  (repeat first|simp(disch:=try exact dis1) only[evD,Nat.reduceBEq,Nat.reduceAdd,Nat.reduceLeDiff,zio]|with_reducible first|intro _|refine aJ ?_)
  refine⟨_,?_,rfl⟩;rw[zAR hlen];have:=vw_NN (H:=[(0,.row 1 (g.E.map cNs) 0)]) (H2:=[]) (σ:=nos) (D:=allR) (t:=false) (r:=0) (q:=0) (g:=0) (l:=g.E) trivial rfl (by omega)
  rwa [hlen] at this
structure Adj.small (A:Adj):Prop where
 len:A.length≤2000
 row:∀k,(suc A k).length≤2000000
def keepP (l:List Nat) (j:Nat):Bool:=j == 0||(l.getD j 0 != l.getD (j - 1) 0)
def keepL (l:List Nat) (n:Nat):List Nat:=(filR (keepP l) n).map (fun j=>l.getD j 0)
theorem _root_.Go.Ab.Gr.E_small {g:Gr} (hg:g.small):g.E.small:=by
 refine⟨by rw[g.E_len];have:=hg.1;omega,fun k=>?_⟩;unfold suc Gr.E;rw[Wc,WJ]
 cases hb:g.blocks[k]? with
 | none=>simp
 |
  some b =>
  simp only[Option.map_some,Option.getD_some,Ws];have h1:=WH (ziA g.blocks.length) b.targets;have h2:=hg.2 b (List.mem_of_getElem? hb);omega
def inB (n:Nat) (l:List Nat):List Bool:=mapR (fun i=>decide (i∈l)) n
theorem zqp {n:Nat} {l:List Nat}:(inB n l).length=n:=zy7
theorem zB0 {n i:Nat} {l:List Nat} (h:i < n):((inB n l).map cB).getD i []=[.bool (decide (i∈l))]:=by simp[inB,mapR,Wc,h]
theorem zxj {n k:Nat} {l:List Nat}:((inB n l).map cB).set k [.bool true]=(inB n (l++[k])).map cB:=by
 unfold inB mapR;rw[Wf,Wf,zdH]
 refine Wi fun i hi=>?_
 unfold updF;split
 · rename_i h;subst h;simp
 · rename_i h;simp[h]
theorem zqa {n:Nat}:(inB n []).map cB=Wh n [.bool false]:=by
 unfold inB mapR;rw[Wf]
 have:(cB ∘ fun i=>decide (i∈([]:List Nat)))=fun _=>[AV.bool false]:=by funext i;simp
 rw[this,List.map_const',WI]
def zcn (A:Adj):List AV:=[.ptr 1 0 0 0 0,.iptr 1 fun j=>[zmM A].getD j .undef,.ptr 3 0 0 0 0,.ptr 2 0 0 0 0]
def ordH (A:Adj) (s:List Nat × List Nat) (g:Nat):AH:=[(0,.row 1 ((inB A.length s.1).map cB) 0),(1,.row 1 [[.own 0 0 0 0 A.length]] 0),(2,.row 1 [[.own 4 0 g 0 s.2.length]] 0),
 (3,.row 1 [[.fn (.func zca) (zcn A)]] 0),(4,.row 1 (s.2.map cN) g)]
theorem zfD (A:Adj) (hA:A.small) (hok:A.ok):∀(f:Nat) (k g:Nat) (s:List Nat × List Nat) (m d:Nat),DfsI A.length m d s→k < A.length→k∉s.1→A.length≤f+m →
  z7 Tryz.prog zca ([.int .i64 k]++zcn A) (ordH A s g) 5 (fun v H nx=>∃g',v=.tup []∧H=ordH A (dfs A f k s) g'∧nx=5)
 |
  0,k,g,s,m,d,hs,hk,hn,hf=>by
  have:=(hs.nd.snoc hk hn).len;have:=hs.le;simp at *;omega
 |
  f+1,k,g,s,m,d,hs,hk,hn,hf=>by
  have ih:=zfD A hA hok f;have hB:=hBig;have hsl:=hs.nd.len;have hsp:=hs.post;have hAl:=hA.len;refine z8 (fn_x zjZ rfl ?_);unfold zfL;have hE:∀c∈suc A k,c < A.length:=hok k;have hstart:DfsI A.length (m+1) (d+1) (s.1++[k],s.2):=⟨hs.nd.snoc hk hn,by have:=hs.le;simp;omega,by simp;omega⟩;have hdfs:=zqL A f k s;have hrow:=hA.row k;rw[zBs hk] at hE hdfs hrow
  (repeat first|simp(disch:=try exact dis1) only[evD,Nat.reduceBEq,Nat.reduceAdd,Nat.reduceLeDiff,zcn,ordH,zqp,zmM,zbF,zm hk,zxj]|with_reducible first|intro _|refine aJ ?_)
  generalize hcs:A[k]=cs at hE hdfs hrow ⊢
  let S:=fun i:Nat=>(cs.take i).foldl (zcl A f) (s.1++[k],s.2)
  refine zk (fun a:Nat × Nat=>([(0,.int .i64 k),(1,.ptr 1 0 0 0 0),(3,.ptr 3 0 0 0 0),(4,.ptr 2 0 0 0 0),(14,zbF cs),(15,.int .i64 cs.length),(16,.int .i64 a.1)],ordH A (S a.1) a.2)) 5
   (fun a=>a.1≤cs.length) (fun a=>cs.length - a.1) (0,g) (We _) (Ent.tabB [(0,0,0),(1,1,0),(2,2,0),(3,3,0),(4,4,0)] [] rfl rfl rfl (by(try simp only[evWB,Nat.reduceBEq,Nat.reduceAdd,Nat.reduceSub,Nat.reduceLeDiff,Nat.reduceLT,implies_true,S,List.foldl_nil,ordH,zcn,zmM])<;>exact fin4) (by(try simp only[evWB,Nat.reduceBEq,Nat.reduceAdd,Nat.reduceSub,Nat.reduceLeDiff,Nat.reduceLT,implies_true,S,List.foldl_nil,ordH,zcn,zmM])<;>exact fin4)) ?_
  rintro⟨i,a0⟩ hi wf;simp only at hi;unfold zdM
  (repeat first|simp(disch:=try exact dis1) only[evD,Nat.reduceBEq,Nat.reduceAdd,Nat.reduceLeDiff,ordH,zbF]|with_reducible first|intro _|refine aJ ?_)
  have hS:DfsI A.length (m+1) (d+1) (S i):=zkw (znN hok f (m+1) (d+1)) (cs.take i) _ (fun c hc=>hE c (List.mem_of_mem_take hc)) hstart;have hSl:=hS.nd.len
  (refine zy (fun h=>?_) (fun h=>?_))<;>(try simp only[dcd] at h)
  ·
   have hi':i < cs.length:=by omega
   have hst:S (i+1)=zcl A f (S i) cs[i]:=zjq hi';have hc:=hE cs[i] (Wk hi');generalize S i=s1 at hS hSl hst ⊢
   (repeat first|simp(disch:=try exact dis1) only[evD,Nat.reduceBEq,Nat.reduceAdd,Nat.reduceLeDiff,zm hi']|with_reducible first|intro _|refine aJ ?_)
   generalize cs[i]=c at hst hc ⊢
   (repeat first|simp(disch:=try exact dis1) only[evD,Nat.reduceBEq,Nat.reduceAdd,Nat.reduceLeDiff,zqp,zB0 hc]|with_reducible first|intro _|refine aJ ?_)
   (refine zy (fun h2=>?_) (fun h2=>?_))<;>(try simp only[dcd] at h2)
   ·
    have e:zcl A f s1 c=dfs A f c s1:=by unfold zcl;rw[if_neg h2]
    rw[e] at hst
    (repeat first|simp(disch:=try exact dis1) only[evD,Nat.reduceBEq,Nat.reduceAdd,Nat.reduceLeDiff,zcn]|with_reducible first|intro _|refine aJ ?_)
    refine⟨by kernel_rfl,?_⟩;refine zbr [(0,0,0),(1,1,0),(2,2,0),(3,3,0),(4,4,0)] 5 _ (ih c a0 s1 (m+1) (d+1) hS hc h2 (by omega)) rfl rfl (by(try simp only[evWB,Nat.reduceBEq,Nat.reduceAdd,Nat.reduceSub,Nat.reduceLeDiff,Nat.reduceLT,implies_true,ordH,zcn])<;>exact fin4) (by(try simp only[evWB,Nat.reduceBEq,Nat.reduceAdd,Nat.reduceSub,Nat.reduceLeDiff,Nat.reduceLT,implies_true,ordH,zcn])<;>exact fin4) ?_;rintro v H' nx' ⟨g',rfl,rfl,rfl⟩
    (repeat first|simp(disch:=try exact dis1) only[evD,Nat.reduceBEq,Nat.reduceAdd,Nat.reduceLeDiff,ordH,zcn]|with_reducible first|intro _|refine aJ ?_)
    exact⟨(i+1,g'),by simp only;omega,by simp only;omega,(Ent.tabB [(0,0,0),(1,1,0),(2,2,0),(3,3,0),(4,4,0)] [] rfl rfl rfl (by(try simp only[evWB,Nat.reduceBEq,Nat.reduceAdd,Nat.reduceSub,Nat.reduceLeDiff,Nat.reduceLT,implies_true,hst,ordH,zcn])<;>exact fin4) (by(try simp only[evWB,Nat.reduceBEq,Nat.reduceAdd,Nat.reduceSub,Nat.reduceLeDiff,Nat.reduceLT,implies_true,hst,ordH,zcn])<;>exact fin4))⟩
   ·
    have e:zcl A f s1 c=s1:=by unfold zcl;rw[if_pos h2]
    rw[e] at hst
    (repeat first|simp(disch:=try exact dis1) only[evD,Nat.reduceBEq,Nat.reduceAdd,Nat.reduceLeDiff]|with_reducible first|intro _|refine aJ ?_)
    exact⟨(i+1,a0),by simp only;omega,by simp only;omega,(Ent.tabB [(0,0,0),(1,1,0),(2,2,0),(3,3,0),(4,4,0)] [] rfl rfl rfl (by(try simp only[evWB,Nat.reduceBEq,Nat.reduceAdd,Nat.reduceSub,Nat.reduceLeDiff,Nat.reduceLT,implies_true,hst,ordH,zcn])<;>exact fin4) (by(try simp only[evWB,Nat.reduceBEq,Nat.reduceAdd,Nat.reduceSub,Nat.reduceLeDiff,Nat.reduceLT,implies_true,hst,ordH,zcn])<;>exact fin4))⟩
  ·
   unfold zdO
   have hi':cs.length≤i:=by omega
   have hSe:S i=cs.foldl (zcl A f) (s.1++[k],s.2):=by simp only[S];rw[WK hi']
   have:=hS.post
   (repeat first|simp(disch:=try exact dis1) only[evD,Nat.reduceBEq,Nat.reduceAdd,Nat.reduceLeDiff,zfJ]|with_reducible first|intro _|refine aJ ?_)
   refine⟨.tup [],ordH A (dfs A (f+1) k s) (a0+1),5,?_,a0+1,rfl,rfl,rfl⟩;rw[hSe,hdfs];exact(Ent.tabB [(0,0,0),(1,1,0),(2,2,0),(3,3,0),(4,4,0)] [] rfl rfl rfl (by(try simp only[evWB,Nat.reduceBEq,Nat.reduceAdd,Nat.reduceSub,Nat.reduceLeDiff,Nat.reduceLT,implies_true,ordH,zcn])<;>exact fin4) (by(try simp only[evWB,Nat.reduceBEq,Nat.reduceAdd,Nat.reduceSub,Nat.reduceLeDiff,Nat.reduceLT,implies_true,ordH,zcn])<;>exact fin4))
def revP (l:List Nat) (i x:Nat):Nat:=if x < i∨l.length - i≤x then l.getD (l.length - 1 - x) 0 else l.getD x 0
def revL (l:List Nat) (i:Nat):List Nat:=(List.range l.length).map (revP l i)
theorem zy2 {l:List Nat} {i:Nat}:(revL l i).length=l.length:=by simp[revL]
theorem zrp {l:List Nat}:revL l 0=l:=by
 apply Wu;intro x;unfold revL revP
 by_cases hx:x < l.length
 ·
  have:¬l.length≤x:=by omega
  simp[hx,Wc,this]
 · simp[hx]
theorem zy4 {l:List Nat} {i:Nat} (h:l.length≤2 * i+1):revL l i=l.reverse:=by
 apply Wu;intro x;unfold revL revP
 by_cases hx:x < l.length
 ·
  rw[List.getElem?_reverse hx];simp only[WJ,List.getElem?_range hx,Option.map_some]
  by_cases hc:x < i∨l.length - i≤x
  · rw[if_pos hc];rw[Wc,Wd (show l.length - 1 - x < l.length by omega)];rfl
  · rw[if_neg hc,show l.length - 1 - x=x by omega,Wc,Wd hx];rfl
 · simp[hx]
theorem zup {l:List Nat} {i x:Nat} (hx:x < l.length):((revL l i).map cN).getD x []=[.int .i64 (revP l i x:Int)]:=by simp[revL,Wc,hx]
theorem zxv {l:List Nat} {i:Nat} (h:2 * i+1 < l.length) :
  (((revL l i).map cN).set i [.int .i64 (revP l i (l.length - 1 - i):Int)]).set (l.length - 1 - i) [.int .i64 (revP l i i:Int)]=(revL l (i+1)).map cN:=by
 unfold revL;rw[Wf,Wf,zdH,zdH]
 refine Wi fun x hx=>?_
 have hx':=List.mem_range.1 hx;unfold updF;simp only[Function.comp]
 by_cases h1:x=l.length - 1 - i
 · rw[if_pos h1];unfold revP;rw[if_neg (by omega),if_pos (by omega),show l.length - 1 - x=i by omega]
 ·
  rw[if_neg h1]
  by_cases h2:x=i
  · rw[if_pos h2];unfold revP;rw[if_neg (by omega),if_pos (by omega),h2]
  ·
   rw[if_neg h2];unfold revP
   by_cases h3:x < i∨l.length - i≤x
   · rw[if_pos h3,if_pos (by omega)]
   · rw[if_neg h3,if_neg (by omega)]
theorem zl6 (l:List Nat) (g:Nat) (hl:l.length≤1000000):z7 Tryz.prog zb0 [.own 0 0 g 0 l.length] [(0,.row 1 (l.map cN) g)] 1
  (fun v H nx=>v=.tup []∧H=[(0,.row 1 (l.reverse.map cN) g)]∧nx=1):=by
 refine z8 (fn_x zhj rfl ?_);unfold zc9;have hB:=hBig
 (repeat first|simp(disch:=try exact dis1) only[evD,Nat.reduceBEq,Nat.reduceAdd,Nat.reduceLeDiff]|with_reducible first|intro _|refine aJ ?_)
 refine zk (fun i:Nat=>([(0,.own 0 0 g 0 l.length),(2,.int .i64 i),(3,.int .i64 ((l.length:Int) - 1 - i))],[(0,.row 1 ((revL l i).map cN) g)])) 1 (fun i=>2 * i≤l.length+1) (fun i=>l.length+1 - i) 0 (by omega) (Ent.tabB [(0,0,0)] [] rfl rfl rfl (by(try simp only[evWB,Nat.reduceBEq,Nat.reduceAdd,Nat.reduceSub,Nat.reduceLeDiff,Nat.reduceLT,implies_true,zrp])<;>exact fin4) (by(try simp only[evWB,Nat.reduceBEq,Nat.reduceAdd,Nat.reduceSub,Nat.reduceLeDiff,Nat.reduceLT,implies_true,zrp])<;>exact fin4)) ?_;intro i hi wf;unfold zcu
 (repeat first|simp(disch:=try exact dis1) only[evD,Nat.reduceBEq,Nat.reduceAdd,Nat.reduceLeDiff]|with_reducible first|intro _|refine aJ ?_)
 (refine zy (fun h=>?_) (fun h=>?_))<;>(try simp only[dcd] at h)
 ·
  have e:((l.length:Int) - 1 - i).toNat=l.length - 1 - i:=by omega
  (repeat first|simp(disch:=try exact dis1) only[evD,Nat.reduceBEq,Nat.reduceAdd,Nat.reduceLeDiff,e,zy2,zup (l:=l) (i:=i) (show l.length - 1 - i < l.length by omega),zup (l:=l) (i:=i) (show i < l.length by omega),List.length_set]|with_reducible first|intro _|refine aJ ?_)
  rw[zxv (by omega)];exact⟨i+1,by omega,by omega,(Ent.tabB [(0,0,0)] [] rfl rfl rfl (by(try simp only[evWB,Nat.reduceBEq,Nat.reduceAdd,Nat.reduceSub,Nat.reduceLeDiff,Nat.reduceLT,implies_true])<;>exact fin4) (by(try simp only[evWB,Nat.reduceBEq,Nat.reduceAdd,Nat.reduceSub,Nat.reduceLeDiff,Nat.reduceLT,implies_true])<;>exact fin4))⟩
 ·
  (repeat first|simp(disch:=try exact dis1) only[evD,Nat.reduceBEq,Nat.reduceAdd,Nat.reduceLeDiff,zdc]|with_reducible first|intro _|refine aJ ?_)
  refine⟨.tup [],[(0,.row 1 (l.reverse.map cN) g)],1,?_,rfl,rfl,rfl⟩;rw[zy4 (by omega)];exact(Ent.tabB [(0,0,0)] [] rfl rfl rfl (by(try simp only[evWB,Nat.reduceBEq,Nat.reduceAdd,Nat.reduceSub,Nat.reduceLeDiff,Nat.reduceLT,implies_true])<;>exact fin4) (by(try simp only[evWB,Nat.reduceBEq,Nat.reduceAdd,Nat.reduceSub,Nat.reduceLeDiff,Nat.reduceLT,implies_true])<;>exact fin4))
def ordL (A:Adj) (r:Nat):List Nat:=(dfs A A.length r ([],[])).2.reverse
theorem zCa {A:Adj} (hok:A.ok) {r:Nat} (hr:r < A.length):DfsI A.length 0 0 (dfs A A.length r ([],[])) :=
 znN hok A.length 0 0 r _ ⟨⟨by simp,by simp⟩,by simp,by simp⟩ hr (by simp)
theorem zlC (A:Adj) (hA:A.small) (hok:A.ok) (r:Nat) (hr:r < A.length):zl Tryz.prog zcU [zmM A,.int .i64 r] (·=zbF (ordL A r)):=by
 refine fn_x zhb rfl ?_;unfold zdB;have hB:=hBig;have hn:=hA.len;have hd:=zCa hok hr;have hdl:=hd.nd.len;have hdp:=hd.post;have h0:DfsI A.length 0 0 ([],[]):=⟨⟨by simp,by simp⟩,by simp,by simp⟩
 (repeat first|simp(disch:=try exact dis1) only[evD,Nat.reduceBEq,Nat.reduceAdd,Nat.reduceLeDiff,zmM]|with_reducible first|intro _|refine aJ ?_)
 (refine zy (fun h=>?_) (fun h=>?_))<;>(try simp only[dcd] at h)
 · omega
 (repeat first|simp(disch:=try exact dis1) only[evD,Nat.reduceBEq,Nat.reduceAdd,Nat.reduceLeDiff]|with_reducible first|intro _|refine aJ ?_)
 refine⟨by kernel_rfl,?_⟩;refine zbr [(0,1,0),(1,2,0),(2,3,0),(3,4,0)] 5 _ (zfD A hA hok A.length r 0 ([],[]) 0 0 h0 hr (by simp) (by omega)) rfl rfl (by(try simp only[evWB,Nat.reduceBEq,Nat.reduceAdd,Nat.reduceSub,Nat.reduceLeDiff,Nat.reduceLT,implies_true,ordH,zcn,zqa,zmM])<;>exact fin4) (by(try simp only[evWB,Nat.reduceBEq,Nat.reduceAdd,Nat.reduceSub,Nat.reduceLeDiff,Nat.reduceLT,implies_true,ordH,zcn,zqa,zmM])<;>exact fin4) ?_;rintro v H' nx' ⟨g',rfl,rfl,rfl⟩;unfold ordL;generalize dfs A A.length r ([],[])=s at hdl hdp ⊢
 (repeat first|simp(disch:=try exact dis1) only[evD,Nat.reduceBEq,Nat.reduceAdd,Nat.reduceLeDiff,ordH,zcn]|with_reducible first|intro _|refine aJ ?_)
 refine zbr [(0,9,0)] 1 _ (zl6 s.2 g' (by omega)) rfl rfl (by(try simp only[evWB,Nat.reduceBEq,Nat.reduceAdd,Nat.reduceSub,Nat.reduceLeDiff,Nat.reduceLT,implies_true])<;>exact fin4) (by(try simp only[evWB,Nat.reduceBEq,Nat.reduceAdd,Nat.reduceSub,Nat.reduceLeDiff,Nat.reduceLT,implies_true])<;>exact fin4) ?_;rintro v H' nx' ⟨rfl,rfl,rfl⟩
 (repeat first|simp(disch:=try exact dis1) only[evD,Nat.reduceBEq,Nat.reduceAdd,Nat.reduceLeDiff,zdY]|with_reducible first|intro _|refine aJ ?_)
 refine⟨_,?_,rfl⟩;rw[show s.2.length=s.2.reverse.length by simp];exact znU trivial rfl (by simp;omega)
theorem zjX (A:Adj) (r:Nat) (hr:A.length≤r):zl Tryz.prog zcU [zmM A,.int .i64 r] (·=zbF []):=by
 refine fn_x zhb rfl ?_;unfold zdB
 (repeat first|simp(disch:=try exact dis1) only[evD,Nat.reduceBEq,Nat.reduceAdd,Nat.reduceLeDiff,zmM]|with_reducible first|intro _|refine aJ ?_)
 (refine zy (fun h=>?_) (fun h=>?_))<;>(try simp only[dcd] at h)
 ·
  (repeat first|simp(disch:=try exact dis1) only[evD,Nat.reduceBEq,Nat.reduceAdd,Nat.reduceLeDiff,zdY]|with_reducible first|intro _|refine aJ ?_)
  refine⟨_,?_,rfl⟩;exact znU (l:=[]) trivial rfl (We _)
 · omega
theorem zla (g:Gr) (hg:g.small):zl Tryz.prog zet [.agg g.cells] (·=zbF (orderL g.E)):=by
 refine fn_x zlv rfl ?_;unfold zg7
 (repeat first|simp(disch:=try exact dis1) only[evD,Nat.reduceBEq,Nat.reduceAdd,Nat.reduceLeDiff,Gr.cells,Gr.two]|with_reducible first|intro _|refine aJ ?_)
 refine zc (zg (zmO g hg) rfl) ?_
 (repeat first|simp(disch:=try exact dis1) only[evD,Nat.reduceBEq,Nat.reduceAdd,Nat.reduceLeDiff]|with_reducible first|intro _|refine aJ ?_)
 by_cases h0:0 < g.E.length
 ·
  refine zc (zg (zlC g.E (Gr.E_small hg) g.E_ok 0 h0) rfl) ?_
  (repeat first|simp(disch:=try exact dis1) only[evD,Nat.reduceBEq,Nat.reduceAdd,Nat.reduceLeDiff,zdC]|with_reducible first|intro _|refine aJ ?_)
  refine⟨_,.sl _ _ _ _,?_⟩
  have:orderL g.E=ordL g.E 0:=by unfold orderL ordL;rw[if_neg (by omega)]
  rw[this];rfl
 ·
  refine zc (zg (zjX g.E 0 (by omega)) rfl) ?_
  (repeat first|simp(disch:=try exact dis1) only[evD,Nat.reduceBEq,Nat.reduceAdd,Nat.reduceLeDiff,zdC]|with_reducible first|intro _|refine aJ ?_)
  refine⟨_,.sl _ _ _ _,?_⟩
  have:orderL g.E=[]:=by unfold orderL;rw[if_pos (by omega)]
  rw[this];rfl
structure TI (A:Adj) (r:Nat) (l:List Nat) (f:Nat→Nat) (T:Nat→Option Nat):Prop where
 wt:WT r l T
 sd:Sd A r l T
 gd:T=(fun _=>none)∨∃T0,Gd A r l f T0 T
structure Bst (U:Nat→Option Nat) (r:Nat) (l qs:List Nat) (best:Option Nat):Prop where
 no:best=none→∀p∈qs,p∈l→¬Hd r U p
 yes:∀c,best=some c→c∈l∧Hd r U c∧∀x,Ch U c x↔∀p∈qs,p∈l→Hd r U p→Ch U p x
theorem dF {p:Prop} (h:¬p) {inst:Decidable p}:@decide p inst=false:=decide_eq_false h
theorem dT {p:Prop} (h:p) {inst:Decidable p}:@decide p inst=true:=decide_eq_true h
end Go.Ab.Dm
namespace Go.Ab.Dm
structure SL (A:Adj) (r:Nat) (l:List Nat) (inc:Bool) (S:Adj) (n:Nat):Prop where
 nd:∀b,b < n→(suc S b).Nodup
 mem:∀a b,b < n→(a∈suc S b↔(b∈l∧a∈l∧a≠b∧(a≠r∨inc=true)∧Dm A r a b))
theorem zAi {A:Adj} (hok:A.ok) {r:Nat} (hr:r < A.length) {x:Nat}:x∈ordL A r↔RA A (fun _=>False) r x:=(rpo hok hr).mem x
end Go.Ab.Dm
namespace Go.Ab.Dm
open Go.RowKit Go.Proofs
theorem inB_order {E:Adj} (hE:E.ok):inB E.length (orderL E)=reachL E:=by
 unfold inB reachL mapR
 refine Wi fun b hb=>?_
 have hb':=List.mem_range.1 hb
 have hn:0 < E.length:=by omega
 have h1:orderL E=ordL E 0:=by unfold orderL ordL;rw[if_neg (by omega)]
 have h2:b∈zwR E 0 (-1)↔RA E (fun _=>False) 0 b:=zwm hE hn;rw[h1];exact decide_eq_decide.2 ((zAi hE hn).trans h2.symm)
theorem orderL_nd {E:Adj} (hE:E.ok):NdL E.length (orderL E):=by
 by_cases hn:0 < E.length
 ·
  have h1:orderL E=ordL E 0:=by unfold orderL ordL;rw[if_neg (by omega)]
  rw[h1];exact⟨(rpo hE hn).nd,(rpo hE hn).lt⟩
 ·
  have h1:orderL E=[]:=by unfold orderL;rw[if_pos (by omega)]
  rw[h1];exact⟨by simp,by simp⟩
theorem dominator_Reachable_ok (g:Gr) (hg:g.small):zl Tryz.prog zcE [.agg g.cells] (·=zaa (reachL g.E)):=by
 refine fn_x ziO rfl ?_;unfold zee;have hB:=hBig;have hlen:=g.E_len;have hn:=hg.1;rw[←inB_order g.E_ok];have hnd:=orderL_nd g.E_ok
 (repeat first|simp(disch:=try exact dis1) only[evD,Nat.reduceBEq,Nat.reduceAdd,Nat.reduceLeDiff,Gr.cells,Gr.two]|with_reducible first|intro _|refine aJ ?_)
 refine zc (zg (zla g hg) rfl) ?_;generalize orderL g.E=l at hnd ⊢;generalize g.E.length=n at hlen hnd ⊢;subst hlen;have hln:=hnd.len
 (repeat first|simp(disch:=try exact dis1) only[evD,Nat.reduceBEq,Nat.reduceAdd,Nat.reduceLeDiff,zbF]|with_reducible first|intro _|refine aJ ?_)
 refine zk (fun i:Nat=>([(3,.own 0 0 0 0 g.blocks.length),(11,zbF l),(12,.int .i64 l.length),(13,.int .i64 i)],[(0,.row 1 ((inB g.blocks.length (l.take i)).map cB) 0)])) 1 (fun i=>i≤l.length) (fun i=>l.length - i) 0 (We _) (Ent.tab [(0,1,0)] [] rfl (by(try simp only[evWB,Nat.reduceBEq,Nat.reduceAdd,Nat.reduceSub,Nat.reduceLeDiff,Nat.reduceLT,implies_true,zqa])<;>exact fin4) (by(try simp only[evWB,Nat.reduceBEq,Nat.reduceAdd,Nat.reduceSub,Nat.reduceLeDiff,Nat.reduceLT,implies_true,zqa])<;>exact fin4)) ?_;intro i hi wf;unfold zdh
 (repeat first|simp(disch:=try exact dis1) only[evD,Nat.reduceBEq,Nat.reduceAdd,Nat.reduceLeDiff,zbF]|with_reducible first|intro _|refine aJ ?_)
 (refine zy (fun h=>?_) (fun h=>?_))<;>(try simp only[dcd] at h)
 ·
  have hi':i < l.length:=by omega
  have hk:=hnd.lt _ (Wk hi')
  have htk:l.take (i+1)=l.take i++[l[i]]:=by rw[List.take_add_one,Wd hi'];rfl
  (repeat first|simp(disch:=try exact dis1) only[evD,Nat.reduceBEq,Nat.reduceAdd,Nat.reduceLeDiff,zm hi',zqp,zxj]|with_reducible first|intro _|refine aJ ?_)
  exact⟨i+1,by omega,by omega,(Ent.tab [(0,0,0)] [] rfl (by(try simp only[evWB,Nat.reduceBEq,Nat.reduceAdd,Nat.reduceSub,Nat.reduceLeDiff,Nat.reduceLT,implies_true,htk])<;>exact fin4) (by(try simp only[evWB,Nat.reduceBEq,Nat.reduceAdd,Nat.reduceSub,Nat.reduceLeDiff,Nat.reduceLT,implies_true,htk])<;>exact fin4))⟩
 ·
  unfold zdd
  (repeat first|simp(disch:=try exact dis1) only[evD,Nat.reduceBEq,Nat.reduceAdd,Nat.reduceLeDiff,zd8]|with_reducible first|intro _|refine aJ ?_)
  refine⟨_,?_,rfl⟩;rw[WK (by omega)];have e:=zqp (n:=g.blocks.length) (l:=l);have:=zm5 (H:=[(0,.row 1 ((inB g.blocks.length l).map cB) 0)]) (H2:=[]) (σ:=nos) (D:=allR) (t:=false) (r:=0) (q:=0) (g:=0) (l:=inB g.blocks.length l) trivial rfl (by omega)
  rwa [e] at this
end Go.Ab.Dm
namespace Go.Ab
open Go.RowKit Go.Proofs
def St.toS (s:St):Stm:=⟨s.op,s.var,s.width,s.next,s.els,s.tgt,encL 5 encX s.e,s.cases⟩
def Bl.toB (b:Bl):Blk:=⟨b.addr,b.stmts.map St.toS⟩
def G.toG (g:G):Gr:=⟨g.addr,g.blocks.map Bl.toB⟩
theorem zuR {α β:Type} {n:Nat} {f:β→List AV} {h:α→β} {l:List α}:encL n f (l.map h)=encL n (fun x=>f (h x)) l:=by unfold encL;rw[Ws,Wf];rfl
theorem St.toS_cells (s:St):s.toS.cells=s.cells:=rfl
theorem Bl.toB_cells (b:Bl):b.toB.cells=b.cells:=by unfold Bl.toB Blk.cells Bl.cells;simp only[zuR,St.toS_cells]
theorem G.toG_cells (g:G):g.toG.cells=g.cells:=by unfold G.toG Gr.cells G.cells;simp only[zuR,Bl.toB_cells]
theorem Bl.toB_targets (b:Bl):b.toB.targets=zx b.stmts:=by
 unfold Blk.targets zx Bl.toB;simp only[List.getLast?_map]
 cases b.stmts.getLast? <;> rfl
structure midG (g:G):Prop where
 blocks:g.blocks.length≤300
 stmts:∀b∈g.blocks,b.stmts.length≤1100∧∀s∈b.stmts,s.cases.length≤100
theorem zjD {g:G} (h:midG g):manyB g:=⟨Wl h.blocks (by decide),fun b hb=>Wl (h.stmts b hb).1 (by decide)⟩
theorem zpl {g:G} (h:midG g):∀b∈g.blocks,∀s∈b.stmts,s.cases.length≤100000000:=fun b hb s hs=>Wl ((h.stmts b hb).2 s hs) (by decide)
theorem zf4 {l:List St} {n:Nat} (hn:2≤n) (h:∀s∈l,s.cases.length≤n):(zx l).length≤n:=by
 unfold zx
 cases hl:l.getLast? with
 | none=>simp
 |
  some s =>
  have:=h s (List.mem_of_getLast? hl);simp only[zg0];split
  · simp only[List.length_singleton];omega
  ·
   split
   · simp only[Wv,Ww];omega
   ·
    split
    · exact this
    · simp
theorem zvj {g:G} (h:midG g):g.toG.small:=by refine⟨by have:=h.blocks;simp[G.toG];omega,fun b hb=>?_⟩;obtain⟨b',h3,rfl⟩:=List.mem_map.1 hb;rw[Bl.toB_targets];exact Wl (zf4 (by decide) (h.stmts b' h3).2) (by decide:100≤1000)
def znW:Nd→Bool
 | .mk f c l=>zbE f.kind f.block f.label c l.length
mutual
def zfb:Nd→Bool
 | .mk f c l=>zdI l&&zbE f.kind f.block f.label c l.length
def zdI:List Nd→Bool
 | []=>true
 | x::l=>zfb x&&zdI l
end
mutual
theorem zoE:∀n:Nd,(allN n).all znW=zfb n
 |
  .mk f c l=>by
  rw[allN,Wq,zmF l,zfb,Bool.and_comm];rfl
theorem zmF:∀l:List Nd,(zd4 l).all znW=zdI l
 | []=>by rw[zd4,zdI];rfl
 | x::l=>by rw[zd4,List.all_append,zoE x,zmF l,zdI]
end
theorem zlD (e:Nd):zl Tryz.prog zD [.agg (encN e)] (·=.bool (znW e)):=by obtain⟨⟨kd,bl,lb⟩,c,l⟩:=e;rw[zex];exact zku kd bl lb c l
theorem zms (l:List Nd):PredN (.fn (.func zdt) []) l (fun x => !znW x):=by
 refine⟨_,_,rfl,by kernel_rfl,rfl,fun s hs=>?_⟩;refine fn_x zjN rfl ?_;unfold zfC
 (refine QX ?_;intros)
 refine zc (zg (zlD s) (flN rfl)) ?_
 (repeat first|simp(disch:=try exact dis1) only[evD,Nat.reduceBEq,Nat.reduceAdd,Nat.reduceLeDiff,zfj]|with_reducible first|intro _|refine aJ ?_)
 exact⟨_,.bool _ _,rfl⟩
theorem Qav {p:Prop}(h:p:=by(try simp only[evWB,Nat.reduceBEq,Nat.reduceAdd,Nat.reduceSub,Nat.reduceLeDiff,Nat.reduceLT,implies_true,List.length_append,List.map_append,List.length_cons,List.length_nil,List.map_cons,List.map_nil])<;>exact fin2):p:=h
theorem zjO (e:Nd) (hs:zav e≤1000):z7 Tryz.prog zdP [.agg (encN e)] [] 0 (fun v H nx=>v=.own 0 0 0 0 (coll labP e).length∧H=[(0,.row 1 ((coll labP e).map cI) 0)]∧nx=1):=by
 refine z8 (fn_x zkD rfl ?_);unfold zgk;have hB:=hBig;rw[←zrZ];have hl:=zm8 zuQ e;rw[←zrZ] at hl
 (refine Qv ?_;intros)
 refine zc (zg (ziG e hs) (flN rfl)) ?_
 have hlen:(allN e).length≤1000:=by rw[zm4];exact hs
 generalize allN e=l at *;generalize hR:fm labP l=R at hl ⊢
 (refine Qa ?_;intros)
 refine zk (fun s:Nat × List Int=>([(3,.own 0 0 0 0 s.2.length),(7,encL 5 encN l),(8,.int .i64 l.length),(9,.int .i64 s.1)],[(0,.row 1 (s.2.map cI) 0)])) 1 (fun s=>s.1≤l.length∧s.2++fm labP (l.drop s.1)=R) (fun s=>l.length - s.1) (0,[]) ⟨We _,by simp only[List.drop_zero,Wj];exact hR⟩ (Ent.tab [(0,1,0)] [] rfl Qak Qak) ?_;rintro⟨i,x⟩ ⟨hi,hgo⟩ wf;simp only at hi hgo;unfold zd7
 by_cases hil:i < l.length
 ·
  rw[zB8 hil] at hgo;have hgd:=zm (f:=encN) (d:=[]) hil;generalize hli:l[i]=y at hgd hgo;obtain⟨⟨kd,bl,lb⟩,c,m⟩:=y;simp only[Nd.f] at hgo
  have hg:labP ⟨kd,bl,lb⟩=if kd=10 then [lb] else []:=rfl
  rw[zex] at hgd;simp only at hgd;have hxl:=congrArg List.length hgo;simp only[Wr] at hxl
  (repeat first|simp(disch:=try exact dis1) only[evD,Nat.reduceBEq,Nat.reduceAdd,Nat.reduceLeDiff,dT,hgd,Wv,Ww]|with_reducible first|intro _|refine aJ ?_)
  (refine zy (fun h9=>?_) (fun h9=>?_))<;>(try simp only[dcd] at h9)
  ·
   rw[if_pos h9] at hg;rw[hg,←Wm] at hgo
   (refine Qa ?_;intros)
   exact⟨(i+1,x++[lb]),⟨by simp only;omega,hgo⟩,by simp only;omega,(Ent.tab [(0,0,1)] [] rfl Qav Qav)⟩
  ·
   rw[if_neg h9] at hg;rw[hg,Wj] at hgo
   (refine Qa ?_;intros)
   exact⟨(i+1,x),⟨by simp only;omega,hgo⟩,by simp only;omega,(Ent.tab [(0,0,0)] [] rfl Qak Qak)⟩
 ·
  rw[WF (by omega),zwX,Wg] at hgo;subst hgo
  (refine Qk ?_;intros)
  unfold zem
  (repeat first|simp(disch:=try exact dis1) only[evD,Nat.reduceBEq,Nat.reduceAdd,Nat.reduceLeDiff,zgb]|with_reducible first|intro _|refine aJ ?_)
  exact⟨.own 0 0 0 0 x.length,[(0,.row 1 (x.map cI) 0)],1,(Ent.tab [(0,0,0)] [] rfl Qak Qak),rfl,rfl,rfl⟩
end Go.Ab
