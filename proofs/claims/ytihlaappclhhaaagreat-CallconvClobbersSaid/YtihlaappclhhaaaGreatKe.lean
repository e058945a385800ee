/-
  Part 5 of the proof: how the calls of this program run, over values instead of memory, and what each function computes.
-/
import Derived.LoopN
import Derived.Test.YtihlaappclhhaaaGreatKd
set_option maxRecDepth 100000
set_option linter.unusedVariables false
set_option linter.unusedSimpArgs false
set_option linter.unnecessarySimpa false
set_option linter.unusedSectionVars false
open Nat renaming beq→Wa,ble→Wc,blt→Wd,le_of_ble_eq_true→Wm
open List renaming all_eq_true→We,mem_filter→Wf,replicate→Wh,range→Wi,getD_eq_getElem?_getD→Wk,mem_range→Wl,any_eq_true→Wo,mem_cons_of_mem→Wp,getElem?_eq_getElem→Wr,filter_congr→Ws
open Bool renaming and_eq_true→Wg,or_eq_true→Wj,or_eq_true_iff→Wn,not_eq_true'→Wq
namespace Go.Ab
open Go.RowKit
section
variable {P:Program}
def KEq(K K':Kn):Prop:=∀i,K.get i=K'.get i
theorem Kn.get_drop'(K:Kn)(l:List Nat)(x:Nat):(K.drop l).get x=bif memN l x then .undef else K.get x:=by
 induction K with
 | nil=>cases memN l x<;>rfl
 |
  cons p t ih =>
  obtain⟨j,u⟩:=p;simp only[Kn.drop]
  cases hm:memN l j with
  |
   true =>
   simp only[cond_true,ih,Kn.get]
   cases hb:Wa j x with
   | true=>rw[zF hb] at hm;rw[hm];rfl
   | false=>rfl
  |
   false =>
   simp only[cond_false,Kn.get,ih]
   cases hb:Wa j x with
   | true=>rw[zF hb] at hm;rw[hm];rfl
   | false=>rfl
theorem KEq.fn{K K':Kn}(h:KEq K K'):K.get=K'.get:=funext h
theorem KEq.rfl'(K:Kn):KEq K K:=fun _=>rfl
theorem KEq.set{K K':Kn}(h:KEq K K')(d:Nat)(v:AV):KEq (K.set d v) (K'.set d v):=fun i=>by rw[Kn.get_set,Kn.get_set,h i]
theorem KEq.setO{K K':Kn}(h:KEq K K')(d:Option Nat)(v:AV):KEq (Go.Ab.setO K d v) (Go.Ab.setO K' d v):=by
 cases d with
 | none=>exact h
 | some d=>exact h.set d v
theorem KEq.drop{K K':Kn}(h:KEq K K')(l:List Nat):KEq (K.drop l) (K'.drop l):=fun i=>by rw[Kn.get_drop',Kn.get_drop',h i]
theorem zwI{fx:Bool}{o:AOper}{K K':Kn}{H:AH}{nx:Nat}{k k':Kn→AH→Nat→Prop}(hk:∀K K' H nx,KEq K K'→k K H nx→k' K' H nx)(hK:KEq K K')(h:ExK P fx o K H nx k):ExK P fx o K' H nx k':=by
 have key:zdG P fx o.op K.get H nx (fun v H' nx'=>k (setO K o.dst v) H' nx')→zdG P fx o.op K'.get H nx (fun v H' nx'=>k' (setO K' o.dst v) H' nx'):=fun h=>by rw[←hK.fn];exact zc9 (fun v H nx h=>hk _ _ _ _ (hK.setO _ _) h) h
 unfold ExK at *
 cases hg:o.guard with
 | none=>rw[hg] at h;exact key h
 |
  some p =>
  obtain⟨t,want⟩:=p;rw[hg] at h;simp only at h ⊢;rw[←hK t]
  cases hv:grd want (K.get t) with
  | some b=>rw[hv] at h;exact⟨fun e=>key (h.1 e),fun e=>hk _ _ _ _ (hK.setO _ _) (h.2 e)⟩
  | none=>rw[hv] at h;exact h
def QLe(Q Q':QT):Prop:=∀e K K' H nx,KEq K K'→Q e K H nx→Q' e K' H nx
def QExt(Q:QT):Prop:=QLe Q Q
theorem zwM{Q Q':QT}(hq:QLe Q Q'){drop:List Nat}:∀{os:List AOper}{K K':Kn}{H:AH}{nx:Nat},KEq K K'→aops P os drop Q K H nx→aops P os drop Q' K' H nx
 | [],_,_,_,_,hK,h=>hq _ _ _ _ _ (hK.drop _) h
 | _::_,_,_,_,_,hK,h=>zwI (fun _ _ _ _ hK h=>zwM hq hK h) hK h
theorem zp0{Q Q':QT}(hq:QLe Q Q'){drop:List Nat}:∀{t:DTree}{K K':Kn}{H:AH}{nx:Nat},KEq K K'→awpT P t drop Q K H nx→awpT P t drop Q' K' H nx
 | .done,_,_,_,_,hK,h=>hq _ _ _ _ _ (hK.drop _) h
 | .stop,_,_,_,_,_,_=>trivial
 | .step _ _,_,_,_,_,hK,h=>zwI (fun _ _ _ _ hK h=>zp0 hq hK h) hK h
 | .alt _ _ _,_,_,_,_,hK,h=>⟨zwI (fun _ _ _ _ hK h=>zp0 hq hK h) hK h.1,zp0 hq hK h.2⟩
theorem Ent.ext{B:Nat}{K K' K2:Kn}{H H2:AH}{nx nx2:Nat}(hK:KEq K K')(h:Ent B K H nx K2 H2 nx2):Ent B K' H nx K2 H2 nx2:=⟨h.1,fun w L ι tmps rel hk=>h.2 w L ι tmps rel (by rw[hK.fn];exact hk)⟩
theorem zEy{B:Nat}:∀{c:ACode}{Q Q':QT}{K K':Kn}{H:AH}{nx:Nat},QLe Q Q'→KEq K K'→awp P B c Q K H nx→awp P B c Q' K' H nx:=by
 intro c
 induction c with
 | skip=>intro Q Q' K K' H nx hq hK h;exact hq _ _ _ _ _ hK h
 | region os drop=>intro Q Q' K K' H nx hq hK h;exact zwM hq hK h
 | draw t drop=>intro Q Q' K K' H nx hq hK h;exact zp0 hq hK h
 |
  seq a b iha ihb =>
  intro Q Q' K K' H nx hq hK h;refine iha (fun e K K' H nx hK h=>?_) hK h
  cases e with
  | normal=>exact @ihb Q Q' K K' H nx hq hK h
  | exit id=>exact hq _ _ _ _ _ hK h
  | ret=>exact hq _ _ _ _ _ hK h
  | goto l=>exact hq _ _ _ _ _ hK h
 |
  cond c a b iha ihb =>
  intro Q Q' K K' H nx hq hK h;unfold awp at h ⊢
  have e:ev K'.get c=ev K.get c:=by rw[hK.fn]
  rw[e]
  cases hv:ev K.get c<;>rw[hv] at h<;>first|exact h|skip
  exact⟨fun e=>iha hq hK (h.1 e),fun e=>ihb hq hK (h.2 e)⟩
 |
  block id c ih =>
  intro Q Q' K K' H nx hq hK h;refine ih (fun e K K' H nx hK h=>?_) hK h
  cases e with
  | normal=>exact hq _ _ _ _ _ hK h
  |
   exit id' =>
   simp only at h ⊢
   cases hb:Wa id' id<;>rw[hb] at h<;>exact hq _ _ _ _ _ hK h
  | ret=>exact hq _ _ _ _ _ hK h
  | goto l=>exact hq _ _ _ _ _ hK h
 |
  loop c ih =>
  intro Q Q' K K' H nx hq hK h;obtain⟨α,S,N,inv,μ,⟨a,ha,he⟩,hb⟩:=h;refine⟨α,S,N,inv,μ,⟨a,ha,he.ext hK⟩,fun a ha hw=>ih (fun e K K' H nx hK h=>?_) (KEq.rfl' _) (hb a ha hw)⟩
  cases e with
  | normal=>obtain⟨a',h1,h2,h3⟩:=h;exact⟨a',h1,h2,h3.ext hK⟩
  | exit id=>exact hq _ _ _ _ _ hK h
  | ret=>exact hq _ _ _ _ _ hK h
  | goto l=>exact hq _ _ _ _ _ hK h
 | exit id=>intro Q Q' K K' H nx hq hK h;exact hq _ _ _ _ _ hK h
 | ret=>intro Q Q' K K' H nx hq hK h;exact hq _ _ _ _ _ hK h
 |
  mark n c ih =>
  intro Q Q' K K' H nx hq hK h hw;obtain⟨K2,H2,nx2,h1,h2⟩:=h (fun i=>by rw[hK i];exact hw i);exact⟨K2,H2,nx2,h1.ext hK,ih hq (KEq.rfl' _) h2⟩
 |
  join a b iha ihb =>
  intro Q Q' K K' H nx hq hK h;obtain⟨α,S,N,inv,h1,h2⟩:=h;refine⟨α,S,N,inv,iha (fun e K K' H nx hK h=>?_) hK h1,fun x hx hw=>ihb hq (KEq.rfl' _) (h2 x hx hw)⟩
  cases e with
  | normal=>obtain⟨a',h1,h2⟩:=h;exact⟨a',h1,h2.ext hK⟩
  | exit id=>exact hq _ _ _ _ _ hK h
  | ret=>exact hq _ _ _ _ _ hK h
  | goto l=>exact hq _ _ _ _ _ hK h
 |
  scope c ih =>
  intro Q Q' K K' H nx hq hK h;refine ih (fun e K K' H nx hK h=>?_) hK h
  cases e with
  | goto l=>exact h
  | normal=>exact hq _ _ _ _ _ hK h
  | exit id=>exact hq _ _ _ _ _ hK h
  | ret=>exact hq _ _ _ _ _ hK h
 |
  range g ps a b iha ihb =>
  intro Q Q' K K' H nx hq hK h;obtain⟨σ,f,caps,next,ok,s0,α,K1,S,N,inv,invx,nc,Hc,R,hv,hgood,hcaps,hit,hok,hlen,hlow,⟨a0,hinv0,he0⟩,hround,hdone,hx⟩:=h;refine⟨σ,f,caps,next,ok,s0,α,K1,S,N,inv,invx,nc,Hc,R,?_,hgood,hcaps,hit,hok,hlen,hlow,⟨a0,hinv0,he0.ext hK⟩,hround,fun a s H' h1 h2 h3=>hq _ _ _ _ _ (KEq.rfl' _) (hdone a s H' h1 h2 h3),fun a e H' h1 h2=>hq _ _ _ _ _ (KEq.rfl' _) (hx a e H' h1 h2)⟩;rw[←hK.fn];exact hv
 | label l=>intro Q Q' K K' H nx hq hK h;exact hq _ _ _ _ _ hK h
 | goto l=>intro Q Q' K K' H nx hq hK h;exact hq _ _ _ _ _ hK h
 |
  jump l a b iha ihb =>
  intro Q Q' K K' H nx hq hK h;obtain⟨α,S,N,inv,μ,h1,h2⟩:=h;refine⟨α,S,N,inv,μ,iha (fun e K K' H nx hK h=>?_) hK h1,fun x hx hw=>ihb (fun e K K' H nx hK h=>?_) (KEq.rfl' _) (h2 x hx hw)⟩
  ·
   cases e with
   | goto l=>obtain⟨h0,a',h1,h2⟩:=h;exact⟨h0,a',h1,h2.ext hK⟩
   | normal=>exact hq _ _ _ _ _ hK h
   | exit id=>exact hq _ _ _ _ _ hK h
   | ret=>exact hq _ _ _ _ _ hK h
  ·
   cases e with
   | goto l=>obtain⟨h0,a',h1,h2,h3⟩:=h;exact⟨h0,a',h1,h2,h3.ext hK⟩
   | normal=>exact hq _ _ _ _ _ hK h
   | exit id=>exact hq _ _ _ _ _ hK h
   | ret=>exact hq _ _ _ _ _ hK h
theorem QExt.seq{B:Nat}{b:ACode}{Q:QT}(h:QExt Q):QExt (seqQ P B b Q):=by
 intro e K K' H nx hK h'
 cases e with
 | normal=>exact zEy h hK h'
 | exit id=>exact h _ _ _ _ _ hK h'
 | ret=>exact h _ _ _ _ _ hK h'
 | goto l=>exact h _ _ _ _ _ hK h'
theorem QExt.block{id:Nat}{Q:QT}(h:QExt Q):QExt (zd4 id Q):=by
 intro e K K' H nx hK h'
 cases e with
 | normal=>exact h _ _ _ _ _ hK h'
 |
  exit id' =>
  unfold zd4 at *;simp only at h' ⊢
  cases hb:Wa id' id<;>rw[hb] at h'<;>exact h _ _ _ _ _ hK h'
 | ret=>exact h _ _ _ _ _ hK h'
 | goto l=>exact h _ _ _ _ _ hK h'
theorem QExt.loop{B:Nat}{α:Type}{S:α→Kn × AH}{N:Nat}{inv:α→Prop}{μ:α→Nat}{a:α}{Q:QT}(h:QExt Q):QExt (zrv B S N inv μ a Q):=by
 intro e K K' H nx hK h'
 cases e with
 | normal=>obtain⟨a',h1,h2,h3⟩:=h';exact⟨a',h1,h2,h3.ext hK⟩
 | exit id=>exact h _ _ _ _ _ hK h'
 | ret=>exact h _ _ _ _ _ hK h'
 | goto l=>exact h _ _ _ _ _ hK h'
theorem QExt.join{B:Nat}{α:Type}{S:α→Kn × AH}{N:Nat}{inv:α→Prop}{Q:QT}(h:QExt Q):QExt (zrp B S N inv Q):=by
 intro e K K' H nx hK h'
 cases e with
 | normal=>obtain⟨a',h1,h2⟩:=h';exact⟨a',h1,h2.ext hK⟩
 | exit id=>exact h _ _ _ _ _ hK h'
 | ret=>exact h _ _ _ _ _ hK h'
 | goto l=>exact h _ _ _ _ _ hK h'
theorem zqM{K K':Kn}{H:AH}{nx:Nat}(hK:KEq K K')(rs:List ARet)(h:zcK K H nx rs):zcK K' H nx rs:=by
 induction rs with
 | nil=>exact h
 |
  cons r rs ih =>
  cases r with
  | tmp t=>exact ih h
  |
   cell t a n =>
   unfold zcK at h ⊢;rw[←hK t];exact⟨h.1,ih h.2⟩
theorem zqy{K K':Kn}{H:AH}{nx:Nat}(hK:KEq K K')(rs:List ARet):zb2 K H nx rs=zb2 K' H nx rs:=by
 induction rs with
 | nil=>rfl
 |
  cons r rs ih =>
  cases r with
  |
   tmp t =>
   unfold zb2;rw[hK t,ih]
  |
   cell t a n =>
   unfold zb2;rw[hK t,ih]
theorem QExt.retK{rs:List ARet}{Post:AV→AH→Nat→Prop}:QExt (retK rs Post):=by
 intro e K K' H nx hK h';unfold Go.Ab.retK at *
 cases e with
 | exit id=>exact h'
 | goto l=>exact h'
 | normal=>exact⟨zqM hK _ h'.1,by rw[←zqy hK];exact h'.2⟩
 | ret=>exact⟨zqM hK _ h'.1,by rw[←zqy hK];exact h'.2⟩
theorem zpU{fx:Bool}{o:AOper}{K:Kn}{H:AH}{nx:Nat}{k k':Kn→AH→Nat→Prop}(hk:∀K H nx,k K H nx→k' K H nx)(h:ExK P fx o K H nx k):ExK P fx o K H nx k':=by
 unfold ExK at *
 cases hg:o.guard with
 | none=>rw[hg] at h;exact zc9 (fun v H nx h=>hk _ _ _ h) h
 |
  some p =>
  obtain⟨t,want⟩:=p;rw[hg] at h;simp only at h ⊢
  cases hv:grd want (K.get t) with
  | some b=>rw[hv] at h;exact⟨fun e=>zc9 (fun v H nx h=>hk _ _ _ h) (h.1 e),fun e=>hk _ _ _ (h.2 e)⟩
  | none=>rw[hv] at h;exact h
theorem alt_of{drop:List Nat}{Q:QT}{K:Kn}{H:AH}{nx:Nat}(l:List (AOper × DTree))(h:∀p∈l,ExK P false p.1 K H nx (awpT P p.2 drop Q)):awpT P (zDM l) drop Q K H nx:=by
 induction l with
 | nil=>trivial
 | cons p l ih=>exact⟨h p (List.mem_cons_self ..),ih fun q hq=>h q (Wp _ hq)⟩
theorem zxI {ops:List AOper} {deps:List (List Nat)} {drop:List Nat} {Q:QT} (Inv:List Bool→Kn→AH→Nat→Prop)
  (hstep:∀l K H nx i,l.length=ops.length→Inv l K H nx→i < ops.length→zde deps l i=true→ExK P false (ops.getD i default) K H nx (Inv (l.set i true)))
  (hend:∀l K H nx,l.length=ops.length→Inv l K H nx→(∀i,i < ops.length→zde deps l i=false)→Q .normal (K.drop drop) H nx) :
  ∀(fuel:Nat)(l:List Bool)(K:Kn)(H:AH)(nx:Nat),l.length=ops.length→zkg l≤fuel→Inv l K H nx→awpT P (zil ops deps fuel l) drop Q K H nx
 |
  0,l,K,H,nx,hl,hc,h=>by
  refine hend l K H nx hl h fun i hi=>?_
  have:=znt (l:=l) (by omega) i (by omega);unfold zde;rw[this];rfl
 |
  fuel+1,l,K,H,nx,hl,hc,h=>by
  simp only[zil]
  have mem:∀i,i∈(Wi ops.length).filter (zde deps l)→i < ops.length∧zde deps l i=true:=fun i hi=>by have:=Wf.1 hi;exact⟨Wl.1 this.1,this.2⟩
  have next:∀i,i < ops.length→zde deps l i=true→ExK P false (ops.getD i default) K H nx (awpT P (zil ops deps fuel (l.set i true)) drop Q):=fun i hi hr=>by refine zpU (fun K H nx hh=>?_) (hstep l K H nx i hl h hi hr);refine zxI Inv hstep hend fuel _ K H nx (by simpa using hl) ?_ hh;have:=zoD (l:=l) (i:=i) (by omega) (zcT.1 hr).1;omega
  cases hr:(Wi ops.length).filter (zde deps l) with
  |
   nil =>
   refine hend l K H nx hl h fun i hi=>?_
   cases hb:zde deps l i with
   | false=>rfl
   |
    true =>
    have:i∈(Wi ops.length).filter (zde deps l):=Wf.2 ⟨Wl.2 hi,hb⟩;rw[hr] at this;simp at this
  |
   cons i0 r0 =>
   simp only
   cases hf:(i0::r0).find? (zCe ops deps l) with
   |
    some i =>
    have:=mem i (by rw[hr];exact List.mem_of_find?_eq_some hf);exact next i this.1 this.2
   |
    none =>
    refine alt_of _ fun p hp=>?_
    obtain⟨i,hi,rfl⟩:=List.mem_map.1 hp;have:=mem i (by rw[hr];exact hi);exact next i this.1 this.2
def zfM:Kn→List (Nat × AV)→Kn
 | K,[]=>K
 | K,(d,v)::r=>zfM (K.set d v) r
def zv0(Kf:Kn):Option Nat→Kn→Prop
 | none,_=>True
 | some d,K=>K.get d=Kf.get d
def zn9(P:Program)(Kf:Kn)(o:AOper)(a b:AH × Nat):Prop:=za0 P (.tree (.step o .done)) [] (fun _ K H nx=>zv0 Kf o.dst K∧H=b.1∧nx=b.2) Kf a.1 a.2
abbrev Plan:=List (Nat × List Nat × List Nat)
def zvN(P:Program)(ops:List AOper)(Kf:Kn)(hs:List Nat→AH × Nat):Plan→Prop
 | []=>True
 | (i,S,S')::r=>zn9 P Kf (ops.getD i default) (hs S) (hs S')∧zvN P ops Kf hs r
def beqL:List Nat→List Nat→Bool
 | [],[]=>true
 | a::l,b::m=>Wa a b&&beqL l m
 | _,_=>false
theorem zlD:∀{l m:List Nat},beqL l m=true→l=m
 | [],[],_=>rfl
 |
  a::l,b::m,h=>by
  simp only[beqL,Wg] at h;rw[zF h.1,zlD h.2]
 | [],_::_,h=>by cases h
 | _::_,[],h=>by cases h
def memP:Plan→Nat→List Nat→List Nat→Bool
 | [],_,_,_=>false
 | (i,k,k')::r,a,b,c=>(Wa i a&&(beqL k b&&beqL k' c))||memP r a b c
def anyP:Plan→Nat→Bool
 | [],_=>false
 | (i,k,k')::r,a=>(Wa i a&&beqL k k')||anyP r a
def memS:List (List Nat)→List Nat→Bool
 | [],_=>false
 | a::r,b=>beqL a b||memS r b
theorem ztr:∀ {l:List (List Nat)} {b:List Nat},memS l b=true→b∈l
 | [],_,h=>by cases h
 |
  a::r,b,h=>by
  simp only[memS,Wj] at h
  rcases h with h|h
  · rw[zlD h];simp
  · exact Wp _ (ztr h)
theorem zq9{ops:List AOper}{Kf:Kn}{hs:List Nat→AH × Nat}:∀{l:Plan},zvN P ops Kf hs l→∀{a:Nat}{b c:List Nat},memP l a b c=true→zn9 P Kf (ops.getD a default) (hs b) (hs c)
 | [],_,_,_,_,h=>by cases h
 |
  (i,k,k')::r,h,a,b,c,hm=>by
  simp only[memP,Wj,Wg] at hm
  rcases hm with ⟨h1,h2,h3⟩|hm
  · rw[←zF h1,←zlD h2,←zlD h3];exact h.1
  · exact zq9 h.2 hm
theorem zuI{ops:List AOper}{Kf:Kn}{hs:List Nat→AH × Nat}:∀{l:Plan},zvN P ops Kf hs l→∀{a:Nat},anyP l a=true→∃b,zn9 P Kf (ops.getD a default) (hs b) (hs b)
 | [],_,_,h=>by cases h
 |
  (i,k,k')::r,h,a,hm=>by
  simp only[anyP,Wj,Wg] at hm
  rcases hm with ⟨h1,h2⟩|hm
  · rw[←zF h1];have:=h.1;rw[←zlD h2] at this;exact⟨_,this⟩
  · exact zuI h.2 hm
def zjl(Ls:List Nat)(A:List (List Nat))(i:Nat)(S:List Nat):Bool :=
 !memN S i&&(Ls.all (fun m => !memN (A.getD i []) m||memN S m)&&S.all fun m => !memN (A.getD m []) i)
def zrw(Ls:List Nat)(i:Nat)(S:List Nat):List Nat:=Ls.filter fun m=>Wa m i||memN S m
structure DrawOk(ops:List AOper)(deps:List (List Nat))(Ls:List Nat)(A:List (List Nat))(St:List (List Nat))(plan:Plan)(ks:List Nat):Prop where
 low:∀(i:Nat),i < ops.length→∀j∈deps.getD i [],j < i
 clo:∀(i:Nat),i < ops.length→∀j∈A.getD i [],j∈deps.getD i []∨∃d∈deps.getD i [],j∈A.getD d []
 one:∀(i j d:Nat),i < ops.length→j < ops.length→(ops.getD i default).dst=some d→(ops.getD j default).dst=some d→i=j
 keys:∀k∈ks,∃o∈ops,o.dst=some k
 look:∀(i:Nat),i < ops.length→∀t∈(ops.getD i default).looks,(∃j∈A.getD i [],(ops.getD j default).dst=some t)∨∀o∈ops,o.dst≠some t
 lin:∀i∈Ls,i < ops.length
 st0:[]∈St
 stc:∀S∈St,∀i∈Ls,zjl Ls A i S=true→zrw Ls i S∈St
 plan:∀(i:Nat),i < ops.length→((ops.getD i default).fixed=true∧(ops.getD i default).sees=false∧i∉Ls∧anyP plan i=true) ∨
  (i∉Ls∧∀S∈St,zjl Ls A i S=true→memP plan i S S=true)∨(i∈Ls∧∀S∈St,zjl Ls A i S=true→memP plan i S (zrw Ls i S)=true)
def allB(n:Nat)(p:Nat→Bool):Bool:=(Wi n).all p
def zzo(ops:List AOper)(deps:List (List Nat))(Ls:List Nat)(A:List (List Nat))(St:List (List Nat))(plan:Plan)(ks:List Nat):Bool :=
 allB ops.length (fun i=>(deps.getD i []).all fun j=>Wd j i) &&
 allB ops.length (fun i=>(A.getD i []).all fun j=>memN (deps.getD i []) j||(deps.getD i []).any fun d=>memN (A.getD d []) j) &&
 allB ops.length (fun i=>allB i fun j=>match (ops.getD i default).dst,(ops.getD j default).dst with|some d,some e => !Nat.beq d e|_,_=>true) &&
 ks.all (fun k=>ops.any fun o=>match o.dst with|some d=>Wa d k|none=>false) &&
 allB ops.length (fun i=>(ops.getD i default).looks.all fun t=>((A.getD i []).any fun j=>match (ops.getD j default).dst with|some d=>Wa d t|none=>false)||ops.all fun o=>match o.dst with|some d => !Nat.beq d t|none=>true) &&
 Ls.all (fun i=>Wd i ops.length) &&
 memS St [] &&
 St.all (fun S=>Ls.all fun i => !zjl Ls A i S||memS St (zrw Ls i S)) &&
 allB ops.length (fun i=>bif memN Ls i then St.all fun S => !zjl Ls A i S||memP plan i S (zrw Ls i S)
  else ((ops.getD i default).fixed&&(!(ops.getD i default).sees&&anyP plan i))||St.all fun S => !zjl Ls A i S||memP plan i S S)
theorem zdL{n:Nat}{p:Nat→Bool}(h:allB n p=true){i:Nat}(hi:i < n):p i=true:=We.1 h i (Wl.2 hi)
theorem impB{a b:Bool}(h:(!a||b)=true)(ha:a=true):b=true:=by
 subst ha
 simpa using h
theorem zAJ{ops:List AOper}{deps:List (List Nat)}{Ls:List Nat}{A:List (List Nat)}{St:List (List Nat)}{plan:Plan}{ks:List Nat}(h:zzo ops deps Ls A St plan ks=true):DrawOk ops deps Ls A St plan ks:=by
 unfold zzo at h;simp only[Wg] at h;obtain⟨⟨⟨⟨⟨⟨⟨⟨h1,h2⟩,h3⟩,h4⟩,h5⟩,h6⟩,h7⟩,h8⟩,h9⟩:=h
 have hone:∀i j d,i < ops.length→j < i→(ops.getD i default).dst=some d→(ops.getD j default).dst=some d→False:=fun i j d hi hj e1 e2=>by have:=zdL (zdL h3 hi) hj;rw[e1,e2] at this;simp[zep] at this
 constructor
 · intro i hi j hj;exact Wm (We.1 (zdL h1 hi) j hj)
 ·
  intro i hi j hj;have:=We.1 (zdL h2 hi) j hj
  rcases Wn.1 this with this|this
  · exact .inl ((za1 _ _).1 this)
  · obtain⟨d,hd,hm⟩:=Wo.1 this;exact .inr ⟨d,hd,(za1 _ _).1 hm⟩
 ·
  intro i j d hi hj e1 e2
  rcases Nat.lt_trichotomy i j with h|h|h
  · exact(hone j i d hj h e2 e1).elim
  · exact h
  · exact(hone i j d hi h e1 e2).elim
 ·
  intro k hk;obtain⟨o,ho,hd⟩:=Wo.1 (We.1 h4 k hk);refine⟨o,ho,?_⟩
  cases e:o.dst with
  | none=>rw[e] at hd;cases hd
  | some d=>rw[e] at hd;rw[zF hd]
 ·
  intro i hi t ht;have:=We.1 (zdL h5 hi) t ht
  rcases Wn.1 this with this|this
  ·
   obtain⟨j,hj,hd⟩:=Wo.1 this;refine .inl ⟨j,hj,?_⟩
   cases e:(ops.getD j default).dst with
   | none=>rw[e] at hd;cases hd
   | some d=>rw[e] at hd;rw[zF hd]
  ·
   refine .inr fun o ho e=>?_
   have:=We.1 this o ho;rw[e] at this;simp[zep] at this
 · intro i hi;exact Wm (We.1 h6 i hi)
 · exact ztr h7
 · intro S hS i hi hc;exact ztr (impB (We.1 (We.1 h8 S hS) i hi) hc)
 ·
  intro i hi;have:=zdL h9 hi
  cases hm:memN Ls i with
  |
   true =>
   rw[hm] at this;exact .inr (.inr ⟨(za1 _ _).1 hm,fun S hS hc=>impB (We.1 this S hS) hc⟩)
  |
   false =>
   rw[hm] at this;have hno:=zox hm
   rcases Wn.1 this with this|this
   · simp only[Wg,Wq] at this;exact .inl ⟨this.1,this.2.1,hno,this.2.2⟩
   · exact .inr (.inl ⟨hno,fun S hS hc=>impB (We.1 this S hS) hc⟩)
theorem zsE:∀ {vs:List (Nat × AV)} {K:Kn} {t:Nat},t∉vs.map (·.1)→(zfM K vs).get t=K.get t
 | [],_,_,_=>rfl
 |
  (d,v)::r,K,t,h=>by
  simp only[List.map_cons,List.mem_cons,not_or] at h;rw[zfM,zsE h.2,Kn.get_set,if_neg h.1]
def zro:List (Nat × AV)→Nat→Option AV
 | [],_=>none
 |
  (d,v)::r,t=>match zro r t with
  | some u=>some u
  | none=>bif Wa d t then some v else none
def zx7(K:Kn)(t:Nat):Option AV→AV
 | some v=>v
 | none=>K.get t
theorem zt:∀ {vs:List (Nat × AV)} {K:Kn} {t:Nat},(zfM K vs).get t=zx7 K t (zro vs t)
 | [],_,_=>rfl
 |
  (d,v)::r,K,t=>by
  rw[zfM,zt];simp only[zro]
  cases zro r t with
  | some u=>rfl
  |
   none =>
   simp only[zx7,Kn.get_set]
   by_cases h:t=d
   · subst h;simp[zep,zx7]
   · simp[h,zeL (Ne.symm h),zx7]
structure DInv(ops:List AOper)(deps:List (List Nat))(Ls:List Nat)(St:List (List Nat))(Kf:Kn)(hs:List Nat→AH × Nat)(l:List Bool)(K:Kn)(H:AH)(nx:Nat):Prop where
 clo:∀i,i < ops.length→getB l i=true→∀j∈deps.getD i [],getB l j=true
 done:∀i d,i < ops.length→getB l i=true→(ops.getD i default).dst=some d→K.get d=Kf.get d
 rest:∀t,(∀o∈ops,o.dst≠some t)→K.get t=Kf.get t
 here:Ls.filter (getB l)∈St
 rows:(H,nx)=hs (Ls.filter (getB l))
theorem zDv{ops:List AOper}{i:Nat}(h:i < ops.length):ops.getD i default∈ops:=by rw[Wk,Wr h];exact List.getElem_mem h
theorem zwO {ops:List AOper} {deps:List (List Nat)} {Ls:List Nat} {A:List (List Nat)} {St:List (List Nat)} {plan:Plan} {ks:List Nat} (ok:DrawOk ops deps Ls A St plan ks) {l:List Bool}
  (hc:∀i,i < ops.length→getB l i=true→∀j∈deps.getD i [],getB l j=true):∀(i:Nat),i < ops.length→(∀j∈deps.getD i [],getB l j=true)→∀j∈A.getD i [],getB l j=true:=by
 intro i
 induction i using Nat.strongRecOn with
 |
  _ i ih =>
  intro hi hd j hj
  rcases ok.clo i hi j hj with h | ⟨d,h1,h2⟩
  · exact hd j h
  · have hlt:=ok.low i hi d h1;exact ih d hlt (by omega) (hc d (by omega) (hd d h1)) j h2
theorem zjx(K:Kn)(t:Nat):(K.drop []).get t=K.get t:=by rw[Kn.get_drop'];rfl
theorem zuY{Kf:Kn}{o:AOper}{H:AH}{nx:Nat}{v:AV}(hf:o.fixed=true)(hy:Yld P o Kf.get H nx v)(hv:∀d,o.dst=some d→upd Kf.get o.dst v d=Kf.get d):zn9 P Kf o (H,nx) (H,nx):=by
 have h:=znX (k:=fun ρ H2 nx2=>(∀d,o.dst=some d→ρ d=Kf.get d)∧H2=H∧nx2=nx) hy ⟨hv,rfl,rfl⟩;unfold zn9 za0;simp only[awpT];unfold ExF at h;unfold ExK
 have conv:∀{v:AV}{H2:AH}{nx2:Nat},((∀d,o.dst=some d→upd Kf.get o.dst v d=Kf.get d)∧H2=H∧nx2=nx)→zv0 Kf o.dst ((setO Kf o.dst v).drop [])∧H2=H∧nx2=nx:=fun {v H2 nx2} hh=>by
  refine⟨?_,hh.2⟩
  cases e:o.dst with
  | none=>trivial
  |
   some d =>
   have h1:=hh.1 d e;rw[e,←znT] at h1;show Kn.get _ d=_;rw[zjx];exact h1
 cases hg:o.guard with
 | none=>rw[hg] at h;exact zc9 (fun v H nx h=>conv h) h
 |
  some p =>
  obtain⟨t,want⟩:=p;rw[hg] at h;simp only at h ⊢
  cases hw:grd want (Kf.get t) with
  | some b=>rw[hw] at h;exact⟨fun e=>zc9 (fun v H nx h=>conv h) (h.1 e),fun e=>by simpa using conv (v:=.tup []) (H2:=H) (nx2:=nx) ⟨(h.2 e).1,rfl,rfl⟩⟩
  | none=>rw[hw] at h;exact h
theorem zv2{Kf K:Kn}{o:AOper}{H:AH}{nx:Nat}{b:AH × Nat}(hK:∀t∈o.looks,K.get t=Kf.get t)(h:zn9 P Kf o (H,nx) b):
  ExK P false o K H nx (fun K2 H2 nx2=>zv0 Kf o.dst K2∧(∀t,o.dst≠some t→K2.get t=K.get t)∧(H2,nx2)=b):=by
 unfold zn9 za0 at h;simp only[awpT] at h
 have conv:∀{v:AV}{H2:AH}{nx2:Nat},(zv0 Kf o.dst ((setO Kf o.dst v).drop [])∧H2=b.1∧nx2=b.2)→zv0 Kf o.dst (setO K o.dst v)∧(∀t,o.dst≠some t→(setO K o.dst v).get t=K.get t)∧(H2,nx2)=b:=fun {v H2 nx2} hh=>by
  obtain⟨h1,h2,h3⟩:=hh;refine⟨?_,fun t ht=>?_,by rw[h2,h3]⟩
  ·
   cases e:o.dst with
   | none=>trivial
   |
    some d =>
    rw[e] at h1;have h4:Kn.get _ d=_:=h1;rw[zjx] at h4;show Kn.get _ d=_;rw[←h4];simp only[setO,Kn.get_set,if_true]
  ·
   cases e:o.dst with
   | none=>rfl
   |
    some d =>
    have:¬t=d:=fun e'=>ht (by rw[e,e'])
    simp only[setO,Kn.get_set,if_neg this]
 unfold ExK at *
 cases hg:o.guard with
 |
  none =>
  rw[hg] at h;simp only at h ⊢;rw[znh (ρ':=Kf.get) (fun t ht=>hK t (zn0 ht))];exact zc9 (fun v H nx h=>conv h) h
 |
  some p =>
  obtain⟨t,want⟩:=p;rw[hg] at h;simp only at h ⊢;rw[hK t (znc hg)]
  cases hw:grd want (Kf.get t) with
  |
   some b =>
   rw[hw] at h;refine⟨fun e=>?_,fun e=>conv (h.2 e)⟩;rw[znh (ρ':=Kf.get) (fun t ht=>hK t (zn0 ht))];exact zc9 (fun v H nx h=>conv h) (h.1 e)
  | none=>rw[hw] at h;exact h
theorem zn8{ops:List AOper}{Kf:Kn}{hs:List Nat→AH × Nat}:zvN P ops Kf hs []=True:=rfl
theorem zmg{ops:List AOper}{Kf:Kn}{hs:List Nat→AH × Nat}{i:Nat}{S S':List Nat}{r:Plan}:zvN P ops Kf hs ((i,S,S')::r)=(zn9 P Kf (ops.getD i default) (hs S) (hs S')∧zvN P ops Kf hs r):=rfl
theorem zdd{Kf:Kn}{d:Nat}{v:AV}:zv0 Kf (some d) ((Kf.set d v).drop [])=(v=Kf.get d):=by show (((Kf.set d v).drop []).get d=Kf.get d)=_;rw[zjx,Kn.get_set,if_pos rfl]
theorem zcn{Kf K:Kn}:zv0 Kf none K=True:=rfl
def zyT(drop:List Nat):List (Nat × AV)→List (Nat × AV)
 | []=>[]
 | (d,v)::r=>bif memN drop d then zyT drop r else (d,v)::zyT drop r
theorem zsv{drop:List Nat}{t:Nat}:∀ {vs:List (Nat × AV)},zro (zyT drop vs) t=bif memN drop t then none else zro vs t
 | []=>by cases memN drop t<;>rfl
 |
  (d,v)::r=>by
  have ih:=zsv (drop:=drop) (t:=t) (vs:=r);simp only[zyT,zro]
  cases hd:memN drop d with
  |
   true =>
   simp only[cond_true,ih]
   cases ht:memN drop t with
   | true=>rfl
   |
    false =>
    have:Wa d t=false:=zeL fun e=>by rw[e,ht] at hd;cases hd
    simp only[cond_false,this]
    cases zro r t<;>rfl
  |
   false =>
   simp only[cond_false,zro,ih]
   cases ht:memN drop t with
   |
    true =>
    have:Wa d t=false:=zeL fun e=>by rw[e,ht] at hd;cases hd
    simp only[cond_true,this,cond_false]
   | false=>simp only[cond_false]
theorem zDm{drop:List Nat}{vs kept:List (Nat × AV)}{K0:Kn}(h:zyT drop vs=kept):KEq (zfM (K0.drop drop) kept) ((zfM K0 vs).drop drop):=fun t=>by
 rw[←h,zt,zsv,Kn.get_drop',zt]
 cases ht:memN drop t with
 | true=>simp only[cond_true,zx7,Kn.get_drop',ht]
 |
  false =>
  simp only[cond_false]
  cases zro vs t with
  | some v=>rfl
  | none=>simp only[zx7,Kn.get_drop',ht,cond_false]
def hsOf(l:List (AH × Nat))(S:List Nat):AH × Nat:=l.getD S.length ([],0)
theorem zpX {ops:List AOper} {deps:List (List Nat)} {drop:List Nat} {Q:QT} {K0:Kn} {H0:AH} {nx0 n:Nat} (Ls:List Nat) (A St:List (List Nat)) (plan:Plan) (vs:List (Nat × AV)) (hs:List Nat→AH × Nat)
  (hc:zzo ops deps Ls A St plan (vs.map (·.1))=true) (hn:n=ops.length) (h0:hs []=(H0,nx0)) (hq:QExt Q) (hp':∀(Kf:Kn)(hs':List Nat→AH × Nat),Kf=zfM K0 vs→hs'=hs→zvN P ops Kf hs' plan)
  (kept:List (Nat × AV)) (hkept:zyT drop vs=kept)
  (he:Q .normal (zfM (K0.drop drop) kept) (hs Ls).1 (hs Ls).2) :
  za0 P (.tree (zil ops deps n (Wh n false))) drop Q K0 H0 nx0:=by
 have ok:=zAJ hc;have hp:=hp' _ _ rfl rfl;subst hn
 have getR:∀i,getB (Wh ops.length false) i=false:=fun i=>by
  unfold getB;rw[Wk,List.getElem?_replicate]
  split<;>rfl
 have noR:Ls.filter (getB (Wh ops.length false))=[]:=by rw[List.filter_eq_nil_iff];intro i _;rw[getR];simp
 have hcome:∀m,zkg (Wh m false)=m:=by
  intro m
  induction m with
  | zero=>rfl
  | succ m ih=>rw[List.replicate_succ,zkg,ih];simp;omega
 refine zxI (DInv ops deps Ls St (zfM K0 vs) hs) ?_ ?_ ops.length _ K0 H0 nx0 (by simp) (by rw[hcome];omega) ⟨fun i _ h=>(by rw[getR] at h;cases h),fun i d _ h=>(by rw[getR] at h;cases h),fun t ht=>?_,?_,?_⟩
 ·
  intro l K H nx i hl inv hi hr;obtain⟨hun,hdeps⟩:=zcT.1 hr;have hA:=zwO ok inv.clo i hi hdeps
  have hlk:∀t∈(ops.getD i default).looks,K.get t=(zfM K0 vs).get t:=fun t ht=>by
   rcases ok.look i hi t ht with ⟨j,hj,hd⟩|h
   ·
    have hjl:=hA j hj
    have hjn:j < ops.length:=by apply Classical.byContradiction;intro hcon;unfold getB at hjl;rw[Wk,List.getElem?_eq_none (by omega)] at hjl;cases hjl
    exact inv.done j t hjn hjl hd
   · exact inv.rest t h
  have hcomp:zjl Ls A i (Ls.filter (getB l))=true:=by
   unfold zjl;simp only[Wg,Wq,We,Wj];refine⟨?_,fun m hm=>?_,fun m hm=>?_⟩
   ·
    cases hb:memN (Ls.filter (getB l)) i with
    | false=>rfl
    |
     true =>
     have:=(Wf.1 ((za1 _ _).1 hb)).2;rw[hun] at this;cases this
   ·
    cases hb:memN (A.getD i []) m with
    | false=>exact .inl rfl
    | true=>exact .inr ((za1 _ _).2 (Wf.2 ⟨hm,hA m ((za1 _ _).1 hb)⟩))
   ·
    obtain⟨hmL,hml⟩:=Wf.1 hm
    cases hb:memN (A.getD m []) i with
    | false=>rfl
    |
     true =>
     have:=zwO ok inv.clo m (ok.lin m hmL) (inv.clo m (ok.lin m hmL) hml) i ((za1 _ _).1 hb);rw[hun] at this;cases this
  have key:∃b,zn9 P (zfM K0 vs) (ops.getD i default) (H,nx) b∧b=hs (Ls.filter (getB (l.set i true)))∧Ls.filter (getB (l.set i true))∈St:=by
   have notin:i∉Ls→Ls.filter (getB (l.set i true))=Ls.filter (getB l):=fun hni=>by
    refine Ws fun m hm=>?_
    rw[zkJ (by omega),if_neg (fun e:m=i=>hni (by rw[←e];exact hm))]
   rcases ok.plan i hi with ⟨hf,hse,hni,ha⟩ | ⟨hni,hk⟩ | ⟨hin,hk⟩
   ·
    obtain⟨b,hb⟩:=zuI hp ha;refine⟨(H,nx),?_,by rw[notin hni];exact inv.rows,by rw[notin hni];exact inv.here⟩;unfold zn9 za0 at hb;simp only[awpT] at hb
    have h1:=zqH (k':=fun ρ H2 nx2=>∀d,(ops.getD i default).dst=some d→ρ d=(zfM K0 vs).get d) (fun K2 H2 nx2 hh d e=>by
     have h3:=hh.1;rw[e] at h3;have h4:Kn.get _ d=_:=h3;rw[zjx] at h4
     exact h4) hb
    obtain⟨v,hy,hv⟩:=zp6 hf h1;exact zuY hf (zxA (H':=H) (nx':=nx) hse hy) hv
   · refine⟨(H,nx),?_,by rw[notin hni];exact inv.rows,by rw[notin hni];exact inv.here⟩;have:=zq9 hp (hk _ inv.here hcomp);rw[←inv.rows] at this;exact this
   ·
    have hnx:zrw Ls i (Ls.filter (getB l))=Ls.filter (getB (l.set i true)):=by
     unfold zrw
     refine Ws fun m hm=>?_
     rw[zkJ (by omega)]
     by_cases hmi:m=i
     · subst hmi;simp[zep]
     ·
      rw[if_neg hmi,zeL hmi,Bool.false_or]
      cases hb:getB l m with
      | true=>exact(za1 _ _).2 (Wf.2 ⟨hm,hb⟩)
      |
       false =>
       cases hb2:memN (Ls.filter (getB l)) m with
       | false=>rfl
       |
        true =>
        have:=(Wf.1 ((za1 _ _).1 hb2)).2;rw[hb] at this;cases this
    have h1:=zq9 hp (hk _ inv.here hcomp);have h2:=ok.stc _ inv.here i hin hcomp;rw[hnx] at h1 h2;rw[←inv.rows] at h1;exact⟨_,h1,rfl,h2⟩
  obtain⟨b,hb,hbe,hbs⟩:=key;refine zpU (fun K2 H2 nx2 hh=>?_) (zv2 hlk hb);obtain⟨h1,h2,h3⟩:=hh;refine⟨?_,?_,?_,hbs,?_⟩
  ·
   intro j hj hjl m hm;rw[zkJ (by omega)] at hjl ⊢
   by_cases hmi:m=i
   · rw[if_pos hmi]
   ·
    rw[if_neg hmi]
    by_cases hji:j=i
    · subst hji;exact hdeps m hm
    · rw[if_neg hji] at hjl;exact inv.clo j hj hjl m hm
  ·
   intro j d hj hjl hd;rw[zkJ (by omega)] at hjl
   by_cases hji:j=i
   · subst hji;rw[hd] at h1;exact h1
   · rw[if_neg hji] at hjl;rw[h2 d (fun e=>hji (ok.one j i d hj hi hd e))];exact inv.done j d hj hjl hd
  · intro t ht;rw[h2 t (ht _ (zDv hi))];exact inv.rest t ht
  · rw[←hbe,h3]
 ·
  intro l K H nx hl inv hnone
  have hall:∀i,i < ops.length→getB l i=true:=by
   intro i
   induction i using Nat.strongRecOn with
   |
    _ i ih =>
    intro hi;have:=hnone i hi
    cases hb:getB l i with
    | true=>rfl
    |
     false =>
     have hr:zde deps l i=true:=zcT.2 ⟨hb,fun j hj=>ih j (ok.low i hi j hj) (by have:=ok.low i hi j hj;omega)⟩;rw[this] at hr;cases hr
  have hK:KEq (zfM K0 vs) K:=fun t=>by
   by_cases h:∃o∈ops,o.dst=some t
   ·
    obtain⟨o,ho,hd⟩:=h;obtain⟨i,hi,he⟩:=List.mem_iff_getElem.1 ho
    have e:ops.getD i default=o:=by rw[Wk,Wr hi,he];rfl
    exact(inv.done i t hi (hall i hi) (by rw[e];exact hd)).symm
   · exact(inv.rest t (fun o ho e=>h ⟨o,ho,e⟩)).symm
  have hcnt:Ls.filter (getB l)=Ls:=List.filter_eq_self.2 (fun m hm=>hall m (ok.lin m hm));have hr:=inv.rows;rw[hcnt] at hr;rw[←hr] at he;exact hq _ _ _ _ _ (fun t=>(zDm hkept t).trans (hK.drop drop t)) he
 · rw[zsE];intro hm;obtain⟨o,ho,hd⟩:=ok.keys t hm;exact ht o ho hd
 · rw[noR];exact ok.st0
 · rw[noR];exact h0.symm
end
theorem zD{α:Type}{f:α→List AV}{l:List α}(h:∀a,zH (f a)=true):zr (l.map f):=fun c hc=>by obtain⟨a,_,rfl⟩:=List.mem_map.1 hc;exact h a
theorem zN{c:List AV}(h:zH c=true):zr [c]:=fun d hd=>by rw[List.mem_singleton.1 hd];exact h
theorem zkV:zr []:=fun d hd=>by cases hd
theorem zbV{c:List AV}{l:List (List AV)}(h:zH c=true)(h2:zr l):zr (c::l):=fun d hd=>by
 rcases List.mem_cons.1 hd with rfl|hd
 · exact h
 · exact h2 d hd
theorem zl9{l m:List (List AV)}(h:zr l)(h2:zr m):zr (l++m):=fun d hd=>by
 rcases List.mem_append.1 hd with hd|hd
 · exact h d hd
 · exact h2 d hd
theorem zk{H HH:AH}{σ:Nat→Nat→Option (Nat × Nat × Nat)}{D:Nat→Nat→Prop}{t:Bool}:∀{l:List AV},zH l=true→VwL H HH σ D t l l
 | [],_=>trivial
 |
  a::l,h=>by
  simp only[zH,Wg] at h;exact⟨zdD h.1,zk h.2⟩
theorem RowV.of_flat{H HH:AH}{σ:Nat→Nat→Option (Nat × Nat × Nat)}{D:Nat→Nat→Prop}{els:List (List AV)}(h:zr els):RowV H HH σ D els els:=zkn h
def hsAt:List (List Nat × AH × Nat)→List Nat→AH × Nat
 | [],_=>([],0)
 | (T,x)::r,S=>bif beqL T S then x else hsAt r S
theorem evA:type_of% @evS∧type_of% @evZ∧type_of% @evX∧type_of% @evK∧type_of% @evB∧type_of% @evL∧type_of% @evR:=⟨@evS,@evZ,@evX,@evK,@evB,@evL,@evR⟩
theorem evWA:type_of% @evW∧type_of% @evK∧type_of% @evB∧type_of% @evL:=⟨@evW,@evK,@evB,@evL⟩
theorem dis1{p:Prop}(h:p:=by first|omega | (simp only[evF,evL,implies_true,and_self];done)|fail):p:=h
def Im(q p:Prop):Prop:=q→p
theorem Im.i{α:Sort _}{q p:α→Prop}(h:∀x,Im (q x) (p x)):Im (∀x,q x) (∀x,p x):=fun k x=>h x (k x)
theorem Im.a{q a b:Prop}(ha:a)(h:Im q b):Im q (a∧b):=fun k=>⟨ha,h k⟩
theorem Im.r{p:Prop}:Im p p:=fun h=>h
theorem m9P{a b:Type}{f:a→b}{l m:List a}:(l++m).map f=l.map f++m.map f:=by simp
theorem aJ{a b:Prop}(hb:b)(ha:a:=by with_unfolding_all omega):a∧b:=⟨ha,hb⟩
theorem Gw0{p q:Prop}(k:q)(h:Im q p:=by(repeat first|simp(disch:=try exact dis1) only[evD,Nat.reduceBEq,Nat.reduceAdd,Nat.reduceLeDiff] | ((with_reducible apply Im.i);intro _) | ((with_reducible apply Im.a);omega));exact Im.r):p:=h k
theorem Gw1{A0 p q:Prop}(a0:A0)(k:q)(h:A0→Im q p:=by intro a0;(repeat first|simp(disch:=try exact dis1) only[evD,Nat.reduceBEq,Nat.reduceAdd,Nat.reduceLeDiff,a0] | ((with_reducible apply Im.i);intro _) | ((with_reducible apply Im.a);omega));exact Im.r):p:=h a0 k
theorem Gw2{A0 A1 p q:Prop}(a0:A0)(a1:A1)(k:q)(h:A0→A1→Im q p:=by intro a0 a1;(repeat first|simp(disch:=try exact dis1) only[evD,Nat.reduceBEq,Nat.reduceAdd,Nat.reduceLeDiff,a0,a1] | ((with_reducible apply Im.i);intro _) | ((with_reducible apply Im.a);omega));exact Im.r):p:=h a0 a1 k
theorem Gw3{A0 A1 A2 p q:Prop}(a0:A0)(a1:A1)(a2:A2)(k:q)(h:A0→A1→A2→Im q p:=by intro a0 a1 a2;(repeat first|simp(disch:=try exact dis1) only[evD,Nat.reduceBEq,Nat.reduceAdd,Nat.reduceLeDiff,a0,a1,a2] | ((with_reducible apply Im.i);intro _) | ((with_reducible apply Im.a);omega));exact Im.r):p:=h a0 a1 a2 k
theorem Gw4{A0 A1 A2 A3 p q:Prop}(a0:A0)(a1:A1)(a2:A2)(a3:A3)(k:q)(h:A0→A1→A2→A3→Im q p:=by intro a0 a1 a2 a3;(repeat first|simp(disch:=try exact dis1) only[evD,Nat.reduceBEq,Nat.reduceAdd,Nat.reduceLeDiff,a0,a1,a2,a3] | ((with_reducible apply Im.i);intro _) | ((with_reducible apply Im.a);omega));exact Im.r):p:=h a0 a1 a2 a3 k
theorem Gw5{A0 A1 A2 A3 A4 p q:Prop}(a0:A0)(a1:A1)(a2:A2)(a3:A3)(a4:A4)(k:q)(h:A0→A1→A2→A3→A4→Im q p:=by intro a0 a1 a2 a3 a4;(repeat first|simp(disch:=try exact dis1) only[evD,Nat.reduceBEq,Nat.reduceAdd,Nat.reduceLeDiff,a0,a1,a2,a3,a4] | ((with_reducible apply Im.i);intro _) | ((with_reducible apply Im.a);omega));exact Im.r):p:=h a0 a1 a2 a3 a4 k
theorem Gw6{A0 A1 A2 A3 A4 A5 p q:Prop}(a0:A0)(a1:A1)(a2:A2)(a3:A3)(a4:A4)(a5:A5)(k:q)(h:A0→A1→A2→A3→A4→A5→Im q p:=by intro a0 a1 a2 a3 a4 a5;(repeat first|simp(disch:=try exact dis1) only[evD,Nat.reduceBEq,Nat.reduceAdd,Nat.reduceLeDiff,a0,a1,a2,a3,a4,a5] | ((with_reducible apply Im.i);intro _) | ((with_reducible apply Im.a);omega));exact Im.r):p:=h a0 a1 a2 a3 a4 a5 k
theorem Gw7{A0 A1 A2 A3 A4 A5 A6 p q:Prop}(a0:A0)(a1:A1)(a2:A2)(a3:A3)(a4:A4)(a5:A5)(a6:A6)(k:q)(h:A0→A1→A2→A3→A4→A5→A6→Im q p:=by intro a0 a1 a2 a3 a4 a5 a6;(repeat first|simp(disch:=try exact dis1) only[evD,Nat.reduceBEq,Nat.reduceAdd,Nat.reduceLeDiff,a0,a1,a2,a3,a4,a5,a6] | ((with_reducible apply Im.i);intro _) | ((with_reducible apply Im.a);omega));exact Im.r):p:=h a0 a1 a2 a3 a4 a5 a6 k
theorem Gw8{A0 A1 A2 A3 A4 A5 A6 A7 p q:Prop}(a0:A0)(a1:A1)(a2:A2)(a3:A3)(a4:A4)(a5:A5)(a6:A6)(a7:A7)(k:q)(h:A0→A1→A2→A3→A4→A5→A6→A7→Im q p:=by intro a0 a1 a2 a3 a4 a5 a6 a7;(repeat first|simp(disch:=try exact dis1) only[evD,Nat.reduceBEq,Nat.reduceAdd,Nat.reduceLeDiff,a0,a1,a2,a3,a4,a5,a6,a7] | ((with_reducible apply Im.i);intro _) | ((with_reducible apply Im.a);omega));exact Im.r):p:=h a0 a1 a2 a3 a4 a5 a6 a7 k
theorem Gw9{A0 A1 A2 A3 A4 A5 A6 A7 A8 p q:Prop}(a0:A0)(a1:A1)(a2:A2)(a3:A3)(a4:A4)(a5:A5)(a6:A6)(a7:A7)(a8:A8)(k:q)(h:A0→A1→A2→A3→A4→A5→A6→A7→A8→Im q p:=by intro a0 a1 a2 a3 a4 a5 a6 a7 a8;(repeat first|simp(disch:=try exact dis1) only[evD,Nat.reduceBEq,Nat.reduceAdd,Nat.reduceLeDiff,a0,a1,a2,a3,a4,a5,a6,a7,a8] | ((with_reducible apply Im.i);intro _) | ((with_reducible apply Im.a);omega));exact Im.r):p:=h a0 a1 a2 a3 a4 a5 a6 a7 a8 k
theorem Gw10{A0 A1 A2 A3 A4 A5 A6 A7 A8 A9 p q:Prop}(a0:A0)(a1:A1)(a2:A2)(a3:A3)(a4:A4)(a5:A5)(a6:A6)(a7:A7)(a8:A8)(a9:A9)(k:q)(h:A0→A1→A2→A3→A4→A5→A6→A7→A8→A9→Im q p:=by intro a0 a1 a2 a3 a4 a5 a6 a7 a8 a9;(repeat first|simp(disch:=try exact dis1) only[evD,Nat.reduceBEq,Nat.reduceAdd,Nat.reduceLeDiff,a0,a1,a2,a3,a4,a5,a6,a7,a8,a9] | ((with_reducible apply Im.i);intro _) | ((with_reducible apply Im.a);omega));exact Im.r):p:=h a0 a1 a2 a3 a4 a5 a6 a7 a8 a9 k
theorem Gw11{A0 A1 A2 A3 A4 A5 A6 A7 A8 A9 A10 p q:Prop}(a0:A0)(a1:A1)(a2:A2)(a3:A3)(a4:A4)(a5:A5)(a6:A6)(a7:A7)(a8:A8)(a9:A9)(a10:A10)(k:q)(h:A0→A1→A2→A3→A4→A5→A6→A7→A8→A9→A10→Im q p:=by intro a0 a1 a2 a3 a4 a5 a6 a7 a8 a9 a10;(repeat first|simp(disch:=try exact dis1) only[evD,Nat.reduceBEq,Nat.reduceAdd,Nat.reduceLeDiff,a0,a1,a2,a3,a4,a5,a6,a7,a8,a9,a10] | ((with_reducible apply Im.i);intro _) | ((with_reducible apply Im.a);omega));exact Im.r):p:=h a0 a1 a2 a3 a4 a5 a6 a7 a8 a9 a10 k
theorem Gw12{A0 A1 A2 A3 A4 A5 A6 A7 A8 A9 A10 A11 p q:Prop}(a0:A0)(a1:A1)(a2:A2)(a3:A3)(a4:A4)(a5:A5)(a6:A6)(a7:A7)(a8:A8)(a9:A9)(a10:A10)(a11:A11)(k:q)(h:A0→A1→A2→A3→A4→A5→A6→A7→A8→A9→A10→A11→Im q p:=by intro a0 a1 a2 a3 a4 a5 a6 a7 a8 a9 a10 a11;(repeat first|simp(disch:=try exact dis1) only[evD,Nat.reduceBEq,Nat.reduceAdd,Nat.reduceLeDiff,a0,a1,a2,a3,a4,a5,a6,a7,a8,a9,a10,a11] | ((with_reducible apply Im.i);intro _) | ((with_reducible apply Im.a);omega));exact Im.r):p:=h a0 a1 a2 a3 a4 a5 a6 a7 a8 a9 a10 a11 k
theorem Gw13{A0 A1 A2 A3 A4 A5 A6 A7 A8 A9 A10 A11 A12 p q:Prop}(a0:A0)(a1:A1)(a2:A2)(a3:A3)(a4:A4)(a5:A5)(a6:A6)(a7:A7)(a8:A8)(a9:A9)(a10:A10)(a11:A11)(a12:A12)(k:q)(h:A0→A1→A2→A3→A4→A5→A6→A7→A8→A9→A10→A11→A12→Im q p:=by intro a0 a1 a2 a3 a4 a5 a6 a7 a8 a9 a10 a11 a12;(repeat first|simp(disch:=try exact dis1) only[evD,Nat.reduceBEq,Nat.reduceAdd,Nat.reduceLeDiff,a0,a1,a2,a3,a4,a5,a6,a7,a8,a9,a10,a11,a12] | ((with_reducible apply Im.i);intro _) | ((with_reducible apply Im.a);omega));exact Im.r):p:=h a0 a1 a2 a3 a4 a5 a6 a7 a8 a9 a10 a11 a12 k
theorem Gw14{A0 A1 A2 A3 A4 A5 A6 A7 A8 A9 A10 A11 A12 A13 p q:Prop}(a0:A0)(a1:A1)(a2:A2)(a3:A3)(a4:A4)(a5:A5)(a6:A6)(a7:A7)(a8:A8)(a9:A9)(a10:A10)(a11:A11)(a12:A12)(a13:A13)(k:q)(h:A0→A1→A2→A3→A4→A5→A6→A7→A8→A9→A10→A11→A12→A13→Im q p:=by intro a0 a1 a2 a3 a4 a5 a6 a7 a8 a9 a10 a11 a12 a13;(repeat first|simp(disch:=try exact dis1) only[evD,Nat.reduceBEq,Nat.reduceAdd,Nat.reduceLeDiff,a0,a1,a2,a3,a4,a5,a6,a7,a8,a9,a10,a11,a12,a13] | ((with_reducible apply Im.i);intro _) | ((with_reducible apply Im.a);omega));exact Im.r):p:=h a0 a1 a2 a3 a4 a5 a6 a7 a8 a9 a10 a11 a12 a13 k
theorem m9A{a:Type}{l m:List a}:(l++m).length=l.length+m.length:=by simp
theorem m9M{a b:Type}{f:a→b}{l:List a}:(l.map f).length=l.length:=by simp
theorem m9O{a:Type}:([]:List a).length=0:=rfl
theorem m9R{a:Type}{n:Nat}{x:a}:(Wh n x).length=n:=by simp
theorem m9S{a:Type}{l:List a}{i:Nat}{x:a}:(l.set i x).length=l.length:=by simp
theorem m9C{a b:Type}{f:a→b}{x:a}{l:List a}:(x::l).map f=f x::l.map f:=rfl
theorem m9N{a b:Type}{f:a→b}:([]:List a).map f=[]:=rfl
theorem fin1{p:Prop}(h:p:=by(repeat' with_reducible apply And.intro)<;>first|omega|exact zou rfl rfl (by omega)|exact zen rfl rfl (by omega)|exact zp1 rfl rfl (by omega)|exact zkn (by repeat' first|exact bytes_flat|exact flat1|refine flat_app ?_ ?_)|exact zsP (fun _=>rfl)|exact znZ (c:=cN) (fun _=>rfl) rfl|exact zdK (fun _=>rfl) (by decide) ⟨rfl,rfl⟩ trivial|exact zdK (fun _=>rfl) (by decide) (fun _ _=>⟨rfl,rfl⟩) trivial | (simp;done)|fail):p:=h
theorem Gin1_0{p:Prop}(h:p:=by(try simp only[evWB,Nat.reduceBEq,Nat.reduceAdd,Nat.reduceSub,Nat.reduceLeDiff,Nat.reduceLT,implies_true])<;>exact fin1):p:=h
theorem Gin1_1{A0 p:Prop}(a0:A0)(h:A0→p:=by intro a0;(try simp only[evWB,Nat.reduceBEq,Nat.reduceAdd,Nat.reduceSub,Nat.reduceLeDiff,Nat.reduceLT,implies_true,a0])<;>exact fin1):p:=h a0
theorem Gin1_2{A0 A1 p:Prop}(a0:A0)(a1:A1)(h:A0→A1→p:=by intro a0 a1;(try simp only[evWB,Nat.reduceBEq,Nat.reduceAdd,Nat.reduceSub,Nat.reduceLeDiff,Nat.reduceLT,implies_true,a0,a1])<;>exact fin1):p:=h a0 a1
theorem fin2 {p:Prop} (h:p:=by((repeat' with_reducible apply And.intro)<;>first|omega|rfl|exact zk rfl | (refine RowV.of_flat ?_;(repeat' (first|exact zD (fun _=>rfl)|exact zD (fun _=>zcr)|exact zD (fun _=>zo)|exact zN zcr|exact zN zo|exact zn3 rfl|exact zkV|exact zN rfl|refine zl9 ?_ ?_|refine zbV rfl ?_|refine zbV zcr ?_|refine zbV zo ?_));done) | ((repeat' (first|exact zD (fun _=>rfl)|exact zD (fun _=>zcr)|exact zD (fun _=>zo)|exact zN zcr|exact zN zo|exact zn3 rfl|exact zkV|exact zN rfl|refine zl9 ?_ ?_|refine zbV rfl ?_|refine zbV zcr ?_|refine zbV zo ?_));done)|exact zou rfl rfl (by omega)|exact zen rfl rfl (by omega)|exact zp1 rfl rfl (by omega)|exact zsP (fun _=>rfl)|exact zdK (fun _=>rfl) (by decide) ⟨rfl,rfl⟩ trivial|exact zdK (fun _=>rfl) (by decide) (fun _ _=>⟨rfl,rfl⟩) trivial | (simp;done)|fail)):p:=h
theorem Gin2_1{A0 p:Prop}(a0:A0)(h:A0→p:=by intro a0;(try simp only[evWB,Nat.reduceBEq,Nat.reduceAdd,Nat.reduceSub,Nat.reduceLeDiff,Nat.reduceLT,implies_true,a0])<;>exact fin2):p:=h a0
theorem Gin2_2{A0 A1 p:Prop}(a0:A0)(a1:A1)(h:A0→A1→p:=by intro a0 a1;(try simp only[evWB,Nat.reduceBEq,Nat.reduceAdd,Nat.reduceSub,Nat.reduceLeDiff,Nat.reduceLT,implies_true,a0,a1])<;>exact fin2):p:=h a0 a1
def loadS(n:Nat)(p:AV)(H:AH):Bool :=
 match p with
 |
  .ptr r q g i f=>match H.get r q with
  | some (.row sz els g')=>Wa g g'&&(Wd i els.length&&Wc (f+n) sz)
  | _=>false
 | .iptr m _=>Wc n m
 | _=>false
def storeS(n:Nat)(p v:AV)(H:AH):Bool :=
 match p with
 |
  .ptr r q g i f=>match H.get r q with
  | some (.row sz els g')=>Wa g g'&&(Wd i els.length&&(Wc (f+n) sz&&(v.solid&&Wa v.cells.length n)))
  | _=>false
 | _=>false
def idxS(sz:Nat)(x i:AV)(H:AH):Bool :=
 match x,i with
 | .sl sz' n _,.int _ k=>Wa sz' sz&&(decide (0≤k)&&decide (k < n))
 |
  .own r q g _ n,.int _ k=>match H.get r q with
  | some (.row sz' _ g')=>Wa sz' sz&&(Wa g g'&&(decide (0≤k)&&decide (k < n)))
  | _=>false
 | _,_=>false
def zB7(off n:Nat)(x:AV):Bool :=
 match x with
 | .ptr ..=>true
 | .iptr m _=>Wc (off+n) m
 | _=>false
def fldS(off n:Nat)(x:AV):Bool :=
 match x with
 | .agg cs=>Wc (off+n) cs.length
 | _=>false
def lenS(x:AV):Bool :=
 match x with
 | .sl .. | .own .. | .nilsl | .cut=>true
 | _=>false
def slenS(x:AV):Bool :=
 match x with
 | .str _=>true
 | _=>false
def binS(op:BinOp)(x y:AV):Bool :=
 match x,y with
 |
  .int k _,.int k' b=>match op with
  | .quo | .rem=>decide (k=k')&&decide (b≠0)
  | .shl | .shr=>decide (0≤b)
  | _=>decide (k=k')
 | _,_=>false
def eqbS(x y:AV):Bool :=
 match x,y with
 | .bool _,.bool _=>true
 | _,_=>false
def unS(op:UnOp)(x:AV):Bool :=
 match op,x with
 | .not,.bool _=>true
 | .neg,.int _ _=>true
 | _,_=>false
def convS(x:AV):Bool :=
 match x with
 | .int _ _=>true
 | _=>false
def pickS(c:AV):Bool :=
 match c with
 | .bool _=>true
 | _=>false
def fillS(n:Nat):List (Nat × Nat × AV)→Bool
 | []=>true
 | (off,size,v)::r=>(v.solid&&(Wa v.cells.length size&&Wc (off+size) n))&&fillS n r
def setS(n sz:Nat):List (Nat × AV)→Bool
 | []=>true
 | (i,v)::r=>(v.solid&&(Wa v.cells.length sz&&Wd i n))&&setS n sz r
def mkslS(bytes:Nat)(l c:AV):Bool :=
 match l,c with
 | .int k n,.int k' m=>decide (k=.i64)&&(decide (k'=.i64)&&(decide (0≤n)&&(decide (n≤m)&&(decide (bytes * m≤140737488355328)&&Wd 0 bytes))))
 | _,_=>false
def loI:Option AV→Option Int
 | none=>some 0
 | some (.int _ k)=>some k
 | _=>none
def hiI(n:Nat):Option AV→Option Int
 | none=>some n
 | some (.int _ k)=>some k
 | _=>none
def sliceS(sz:Nat)(x:AV)(lo hi:Option AV)(H:AH):Bool :=
 match x with
 |
  .sl sz' n _=>match loI lo,hiI n hi with
  | some a,some b=>Wa sz' sz&&(decide (0≤a)&&(decide (a≤b)&&decide (b≤n)))
  | _,_=>false
 |
  .own r q g _ n=>match H.get r q,loI lo,hiI n hi with
  | some (.row sz' _ g'),some a,some b=>Wa sz' sz&&(Wa g g'&&(decide (0≤a)&&(decide (a≤b)&&decide (b≤n))))
  | _,_,_=>false
 |
  .nilsl=>match loI lo,hiI 0 hi with
  | some a,some b=>decide (a=0)&&decide (b=0)
  | _,_=>false
 | _=>false
def cutS(x:AV):Bool :=
 match x with
 | .sl _ _ _ | .own _ _ _ _ _ | .nilsl | .cut=>true
 | _=>false
def zE9(H:AH):AV→Bool
 |
  .own r q _ off n=>match H.get r q with
  | some (.row _ els _)=>Wc (off+n) els.length
  | _=>false
 | _=>true
def zEq(sz bytes:Nat)(x y:AV)(H:AH):Bool :=
 match zgy sz y H,lenV y with
 |
  some _,some m=>match x with
  |
   .own r q g off n=>match H.get r q with
   | some (.row sz' els g')=>Wa sz' sz&&(Wa g g'&&(Wc (off+n) els.length&&(zE9 H y&&Wc ((n+m) * bytes) 140737488355328)))
   | _=>false
  | .nilsl | .cut=>zE9 H y&&Wc (m * bytes) 140737488355328
  | _=>false
 | _,_=>false
def clearS(sz:Nat)(x:AV)(H:AH):Bool :=
 match x with
 |
  .own r q g off n=>match H.get r q with
  | some (.row sz' els g')=>Wa sz' sz&&(Wa g g'&&Wc (off+n) els.length)
  | _=>false
 | _=>false
def extS(i:Nat)(x:AV):Bool :=
 match x with
 | .tup vs=>Wd i vs.length
 | _=>false
def keyS:Option IntKind→AV→Bool
 | some q,.int k _=>decide (q=k)
 | none,.str _=>true
 | _,_=>false
def xopS:XOp→List AV→AH→Bool
 |
  .mark,[.own r q g _ n],H=>match H.get r q with
  | some (.row sz _ g')=>Wa sz 1&&(Wa g g'&&Wd 0 n)
  | _=>false
 | .nilck,[.ptr ..],_=>true
 | .nilck,[.iptr ..],_=>true
 | .seq _,[.str _,.str _],_=>true
 | .sidx,[.str s,.int _ k],_=>decide (0≤k)&&decide (k < s.size)
 |
  .b2s,[x],H=>match zgy 1 x H with
  | some els=>(zgN els).isSome&&(zE9 H x&&(lenV x).isSome)
  | none=>false
 | .s2b,[.str _],_=>true
 |
  .sapp,[.own r q g off n,.str s],H=>match H.get r q with
  | some (.row sz' els g')=>Wa sz' 1&&(Wa g g'&&(Wc (off+n) els.length&&Wc (n+s.size) 140737488355328))
  | _=>false
 | .sapp,[.nilsl,.str s],_=>Wc s.size 140737488355328
 | .sapp,[.cut,.str s],_=>Wc s.size 140737488355328
 | .min,[.int k _,.int k' _],_=>decide (k=k')
 | .max,[.int k _,.int k' _],_=>decide (k=k')
 | .eqs _ ss,[.agg a,.agg b],_=>(zM ss a b).isSome
 | .sl3 sz,[.sl sz' n _,.int _ b,.int _ c],_=>Wa sz' sz&&(decide (0≤b)&&(decide (b≤c)&&decide (c≤n)))
 |
  .sl3 sz,[.own r q g _ n,.int _ b,.int _ c],H=>match H.get r q with
  | some (.row sz' _ g')=>Wa sz' sz&&(Wa g g'&&(decide (0≤b)&&(decide (b≤c)&&decide (c≤n))))
  | _=>false
 | .sl3 _,[.nilsl,.int _ b,.int _ c],_=>decide (b=0)&&decide (c=0)
 | .capn,[.nilsl],_=>true
 | .apz sz bytes _,[.nilsl,.int _ n],_=>decide (0≤n)&&(decide (n * bytes≤140737488355328)&&(Wd 0 sz&&Wd 0 bytes))
 | .mkmap,[],_=>true
 | .mlook str _ _,[.nilmp,k],_=>keyS str k
 |
  .mlook str _ _,[.mp r q,k],H=>match H.get r q with
  | some (.row sz (_::es) g)=>(zcA k es 0).isSome&&(Wa sz 3&&(Wa g 0&&keyS str k))
  | _=>false
 |
  .mset str,[.mp r q,k,_],H=>match H.get r q with
  | some (.row sz ([.int .i64 c,_,_]::es) g)=>(zcA k es 0).isSome&&(Wa sz 3&&(Wa g 0&&(keyS str k&&decide (c < 9223372036854775807))))
  | _=>false
 | .mlen,[.nilmp],_=>true
 |
  .mlen,[.mp r q],H=>match H.get r q with
  | some (.row sz (_::es) g)=>Wa sz 3&&(Wa g 0&&Wc es.length big)
  | _=>false
 | .mdel str,[.nilmp,k],_=>keyS str k
 |
  .mdel str,[.mp r q,k],H=>match H.get r q with
  | some (.row sz (_::es) g)=>(zcA k es 0).isSome&&(Wa sz 3&&(Wa g 0&&keyS str k))
  | _=>false
 | .mrange,[.nilmp],_=>true
 |
  .mrange,[.mp r q],H=>match H.get r q with
  | some (.row sz ([.int .i64 _,_,_]::_) g)=>Wa sz 3&&Wa g 0
  | _=>false
 | .aidx len sz _,[.agg cs,.int _ k],_=>decide (0≤k)&&(decide (k < len)&&Wc (len * sz) cs.length)
 | .aaddr len _,[.ptr ..,.int _ k],_=>decide (0≤k)&&decide (k < len)
 | .aaddr len sz,[.iptr m _,.int _ k],_=>decide (0≤k)&&(decide (k < len)&&Wc (len * sz) m)
 | _,_,_=>false
def sideB:AOp→(Nat→AV)→AH→Bool
 | .mov _,_,_=>true
 | .mknil _,_,_=>true
 | .pick c _ _,K,_=>pickS (ev K c)
 | .load _ n p,K,H=>loadS n (ev K p) H
 | .store n p v,K,H=>storeS n (ev K p) (ev K v) H
 | .idx sz x i,K,H=>idxS sz (ev K x) (ev K i) H
 | .fldaddr off n x,K,_=>zB7 off n (ev K x)
 | .fld off n _ x,K,_=>fldS off n (ev K x)
 | .len x,K,_=>lenS (ev K x)
 | .slen x,K,_=>slenS (ev K x)
 | .bin op x y,K,_=>binS op (ev K x) (ev K y)
 | .eqb _ x y,K,_=>eqbS (ev K x) (ev K y)
 | .un op x,K,_=>unS op (ev K x)
 | .conv _ x,K,_=>convS (ev K x)
 | .build zero parts,K,_=>fillS zero.length (ze7 K parts)
 | .buildSl sz len _ parts,K,_=>setS len sz (zkh K parts)
 | .box x,K,_=>(ev K x).solid
 | .rbox x,K,_=>(ev K x).solid&&zH (ev K x).cells
 | .rbuildSl sz len z parts,K,_=>setS len sz (zkh K parts)&&(zfe (Wh len z) (zkh K parts)).all zH
 | .alloc _,_,_=>true
 | .mksl _ bytes _ l c,K,_=>mkslS bytes (ev K l) (ev K c)
 | .slice sz x lo hi,K,H=>sliceS sz (ev K x) (evO K lo) (evO K hi) H
 | .cut x,K,_=>cutS (ev K x)
 | .mkfn _ _,_,_=>true
 | .append sz bytes x y,K,H=>zEq sz bytes (ev K x) (ev K y) H
 | .clear sz _ x,K,H=>clearS sz (ev K x) H
 | .ext i x,K,_=>extS i (ev K x)
 | .xop x args,K,H=>xopS x (evs K args) H
 | _,_,_=>false
theorem bleT{a b:Nat}(h:Wc a b=true):a≤b:=Wm h
def frzV:Nat→AH→AV→AV
 | 0,_,_=>.undef
 |
  d+1,H,v=>match v with
  |
   .own r q g off n=>match H.get r q with
   | some (.row sz els g')=>bif Wa g g'&&(Wc n big&&Wc (off+n) els.length) then .sl sz n (fun i j=>frzV d H ((els.getD (off+i) []).getD j .undef)) else .undef
   | _=>.undef
  |
   .ptr r q g i o=>match H.get r q with
   | some (.row sz els g')=>bif Wa g g'&&(Wd i els.length&&Wc o sz) then .iptr (sz - o) (fun j=>frzV d H ((els.getD i []).getD (o+j) .undef)) else .undef
   | _=>.undef
  | .agg l=>.agg (l.map (frzV d H))
  | .tup l=>.tup (l.map (frzV d H))
  | .fn f l=>.fn f (l.map (frzV d H))
  | .mp _ _=>.undef
  | .it _=>.undef
  | .nilmp=>.undef
  | v=>v
abbrev zA0:=FuncId→List AV→AH→Nat→Option (AV × AH × Nat)
def quietX(call:zA0)(f:FuncId)(args:List AV)(H:AH):Option AV :=
 bif args.all AV.flat then
  match call f args [] 0 with
  | some (v,H',_)=>some (frzV 9 H' v)
  | none=>none
 else
  match call f (args.map (frzV 9 H)) [] 0 with
  | some (v,H',_)=>bif (frzV 9 H' v).scal then some (frzV 9 H' v) else none
  | none=>none
def bodyX(P:Program)(call:zA0)(op:AOp)(ρ:Nat→AV)(H:AH)(nx:Nat):Option (AV × AH × Nat) :=
 match op with
 | .call f args=>call f (evs ρ args) H nx
 |
  .callq f args=>match quietX call f (evs ρ args) H with
  | some v=>some (v,H,nx)
  | none=>none
 |
  .isnil neg p x=>match nilB p (ev ρ x) with
  | some (some b)=>some (.bool (b != neg),H,nx)
  | _=>none
 | .mnext _=>none
 | .append2 ..=>none
 |
  .callv x args=>match ev ρ x with
  | .fn (.func f) caps=>bif zf7 P f then call f (evs ρ args++caps) H nx else none
  | _=>none
 | op=>bif sideB op ρ H then some ((aop op ρ H nx).v,(aop op ρ H nx).H,(aop op ρ H nx).nx) else none
abbrev Sg:=Nat→Option Nat
def Sg.two(σ:Sg):Nat→Nat→Option (Nat × Nat × Nat):=fun r' q'=>match σ r' with
 | some r=>some (r,q',0)
 | none=>none
def isS(σ:Sg)(r' r:Nat):Bool:=match σ r' with
 | some x=>Wa x r
 | none=>false
def okB(σ:Sg):Nat→AV→Bool
 | 0,_=>false
 |
  d+1,v=>match v with
  | .own r _ _ _ _=>isS σ r r
  | .ptr r _ _ _ _=>isS σ r r
  | .mp r _=>isS σ r r
  | .it r=>isS σ r r
  | .agg l=>l.all (okB σ d)
  | .tup l=>l.all (okB σ d)
  | .fn _ l=>l.all (okB σ d)
  | _=>true
def zsO{α β:Type}(p:α→β→Bool):List α→List β→Bool
 | [],[]=>true
 | a::l,b::m=>p a b&&zsO p l m
 | _,_=>false
def zCP:IntKind→Nat
 | .i8=>0 | .i16=>1 | .i32=>2 | .i64=>3 | .u8=>4 | .u16=>5 | .u32=>6 | .u64=>7
def beqI:Int→Int→Bool
 | .ofNat a,.ofNat b=>Wa a b
 | .negSucc a,.negSucc b=>Wa a b
 | _,_=>false
def beqU:List UInt8→List UInt8→Bool
 | [],[]=>true
 | a::l,b::m=>Wa a.toNat b.toNat&&beqU l m
 | _,_=>false
def beqS(s t:ByteArray):Bool:=beqU s.data.toList t.data.toList
def fnN:Fn→Option Nat
 | .func f=>some f
 | _=>none
def vw0B:Nat→AV→AV→Bool
 | 0,_,_=>false
 |
  d+1,a,b=>match a,b with
  | _,.undef=>true
  | .int k n,.int k' n'=>Wa (zCP k) (zCP k')&&beqI n n'
  | .bool x,.bool y=>x == y
  | .str s,.str t=>beqS s t
  | .nilp,.nilp=>true
  | .nilsl,.nilsl=>true
  | .nilfn,.nilfn=>true
  | .nilmp,.nilmp=>true
  | .cut,.cut=>true
  | .sl sz n f,.sl sz' n' f'=>Wa sz sz'&&(Wa n n'&&allB n fun i=>allB sz fun j=>vw0B d (f i j) (f' i j))
  | .iptr n c,.iptr n' c'=>Wa n n'&&allB n fun j=>vw0B d (c j) (c' j)
  | .agg l,.agg m=>zsO (vw0B d) l m
  | .tup l,.tup m=>zsO (vw0B d) l m
  | .fn f l,.fn g m=>(match fnN f,fnN g with|some x,some y=>Wa x y|_,_=>false)&&zsO (vw0B d) l m
  | _,_=>false
def vwB(σ:Sg):Nat→AV→AV→Bool
 | 0,_,_=>false
 |
  d+1,a,b=>match a,b with
  | _,.undef=>true
  | .int k n,.int k' n'=>Wa (zCP k) (zCP k')&&beqI n n'
  | .bool x,.bool y=>x == y
  | .str s,.str t=>beqS s t
  | .nilp,.nilp=>true
  | .nilsl,.nilsl=>true
  | .nilfn,.nilfn=>true
  | .nilmp,.nilmp=>true
  | .cut,.cut=>true
  | .own r q g o n,.own r' q' g' o' n'=>isS σ r' r&&(Wa q q'&&(Wa g g'&&(Wa o o'&&Wa n n')))
  | .ptr r q g o n,.ptr r' q' g' o' n'=>isS σ r' r&&(Wa q q'&&(Wa g g'&&(Wa o o'&&Wa n n')))
  | .mp r q,.mp r' q'=>isS σ r' r&&Wa q q'
  | .it r,.it r'=>isS σ r' r
  | .sl sz n f,.sl sz' n' f'=>vw0B (d+1) (.sl sz n f) (.sl sz' n' f')
  | .iptr n c,.iptr n' c'=>vw0B (d+1) (.iptr n c) (.iptr n' c')
  | .agg l,.agg m=>zsO (vwB σ d) l m
  | .tup l,.tup m=>zsO (vwB σ d) l m
  | .fn f l,.fn g m=>(match fnN f,fnN g with|some x,some y=>Wa x y|_,_=>false)&&zsO (vwB σ d) l m
  | _,_=>false
def sgR(lo cnt top nx2:Nat):Sg:=fun r' =>
 bif Wc lo r'&&Wd r' (lo+cnt) then some (r' - lo+top) else bif Wd r' top&&Wd r' nx2 then some r' else none
def rowB(σ:Sg):List AV→List AV→Bool:=zsO (vwB σ 30)
def rowsB(σ:Sg)(nx2:Nat)(H:AH):AH→Bool
 | []=>true
 | (r',o)::t=>(Wd r' nx2&&(match o with
   |
    .row sz els2 g2=>match σ r' with
    |
     some r=>match H.look r with
     | some (.row sz' els g)=>Wa sz sz'&&(Wa g g2&&zsO (rowB σ) els els2)
     | _=>false
    | none=>false
   | _=>false))&&rowsB σ nx2 H t
section
variable {P:Program}
def valX(P:Program)(call:zA0)(o:AOper)(ρ:Nat→AV)(H:AH)(nx:Nat):Option (AV × AH × Nat) :=
 match o.guard with
 | none=>bodyX P call o.op ρ H nx
 |
  some (t,want)=>match grd want (ρ t) with
  | some true=>bodyX P call o.op ρ H nx
  | some false=>some (.tup [],H,nx)
  | none=>none
abbrev STab:=List (List Nat × AH)
def zEX:STab→List Nat→AH
 | [],_=>[]
 | (S,H)::t,S'=>bif beqL S S' then H else zEX t S'
def forbS(ops:List AOper)(A:List (List Nat))(i:Nat):List Nat :=
 (Wi ops.length).filterMap fun j=>bif Wa j i||memN (A.getD j []) i then (ops.getD j default).dst else none
def seenK(ops:List AOper)(A:List (List Nat))(K0 Kf:Kn)(i:Nat):Kn:=zfM Kf ((forbS ops A i).map fun t=>(t,K0.get t))
def idS:Sg:=fun r=>some r
def dstB(σ:Sg)(Kf:Kn):Option Nat→AV→Bool
 | none,_=>true
 | some d,v=>vwB σ 30 v (Kf.get d)
def chkE(P:Program)(call:zA0)(ops:List AOper)(A:List (List Nat))(K0 Kf:Kn)(rs:List (Nat × Nat))(nx top:Nat)(tab:STab)(e:Nat × List Nat × List Nat):Bool :=
 match valX P call (ops.getD e.1 default) (seenK ops A K0 Kf e.1).get (zEX tab e.2.1) top with
 |
  some (v,H',_) =>
  bif (ops.getD e.1 default).fixed then dstB idS Kf (ops.getD e.1 default).dst v
  else Wc nx (rs.getD e.1 (0,0)).1&&(Wc ((rs.getD e.1 (0,0)).1+(rs.getD e.1 (0,0)).2) top &&
   (rowsB (sgR (rs.getD e.1 (0,0)).1 (rs.getD e.1 (0,0)).2 top top) top H' (zEX tab e.2.2) &&
   (dstB (sgR (rs.getD e.1 (0,0)).1 (rs.getD e.1 (0,0)).2 top top) Kf (ops.getD e.1 default).dst v &&
   ((Kf.all fun p=>memN (forbS ops A e.1) p.1||okB (sgR (rs.getD e.1 (0,0)).1 (rs.getD e.1 (0,0)).2 top top) 30 p.2) &&
   K0.all fun p=>okB (sgR (rs.getD e.1 (0,0)).1 (rs.getD e.1 (0,0)).2 top top) 30 p.2))))
 | none=>false
structure DR where
 Kf:Kn
 H:AH
 top:Nat
structure DOk(ops:List AOper)(deps:List (List Nat))(Ls:List Nat)(A:List (List Nat))(St:List (List Nat))(plan:Plan)(ks:List Nat):Prop where
 low:∀(i:Nat),i < ops.length→∀j∈deps.getD i [],j < i
 clo:∀(i:Nat),i < ops.length→∀j∈A.getD i [],j∈deps.getD i []∨∃d∈deps.getD i [],j∈A.getD d []
 one:∀(i j d:Nat),i < ops.length→j < ops.length→(ops.getD i default).dst=some d→(ops.getD j default).dst=some d→i=j
 keys:∀k∈ks,∃j,j < ops.length∧(ops.getD j default).dst=some k
 look:∀(i:Nat),i < ops.length→∀t∈(ops.getD i default).looks,(∃j∈A.getD i [],(ops.getD j default).dst=some t)∨∀j,j < ops.length→(ops.getD j default).dst=some t→j=i∨i∈A.getD j []
 lin:∀i∈Ls,i < ops.length
 st0:[]∈St
 stc:∀S∈St,∀i∈Ls,zjl Ls A i S=true→zrw Ls i S∈St
 plan:∀(i:Nat),i < ops.length→((ops.getD i default).fixed=true∧(ops.getD i default).sees=false∧i∉Ls∧anyP plan i=true) ∨
  (i∉Ls∧∀S∈St,zjl Ls A i S=true→memP plan i S S=true)∨(i∈Ls∧∀S∈St,zjl Ls A i S=true→memP plan i S (zrw Ls i S)=true)
structure DX(P:Program)(call:zA0)(ops:List AOper)(deps:List (List Nat))(Ls:List Nat)(A:List (List Nat))(St:List (List Nat))(plan:Plan)(ks:List Nat)(K0 Kf:Kn)(rs:List (Nat × Nat))(nx top:Nat)(tab:STab):Prop where
 ok:DOk ops deps Ls A St plan ks
 chk:∀e∈plan,chkE P call ops A K0 Kf rs nx top tab e=true
 lsF:∀i,i∈Ls→(ops.getD i default).fixed=false
 lsT:∀i,i < ops.length→i∉Ls→(ops.getD i default).fixed=true
end
end Go.Ab
