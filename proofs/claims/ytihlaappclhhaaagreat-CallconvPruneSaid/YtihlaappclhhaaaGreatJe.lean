/-
  Part 5 of the proof: how the calls of this program run, over values instead of memory, and what each function computes.
-/
import Derived.LoopN
import Derived.Test.YtihlaappclhhaaaGreatJd
set_option maxRecDepth 100000
set_option linter.unusedVariables false
set_option linter.unusedSimpArgs false
set_option linter.unnecessarySimpa false
set_option linter.unusedSectionVars false
open Go.Ab.Kn renaming get_set->Xa,get->Xb
open Nat renaming beq→Wa,ble→Wc,blt→Wd,le_of_ble_eq_true→Wm
open List renaming all_eq_true→We,mem_filter→Wf,replicate→Wh,range→Wi,getD_eq_getElem?_getD→Wk,mem_range→Wl,any_eq_true→Wo,mem_cons_of_mem→Wp,getElem?_eq_getElem→Wr,filter_congr→Ws
open Bool renaming and_eq_true→Wg,or_eq_true→Wj,or_eq_true_iff→Wn,not_eq_true'→Wq
namespace Go.Ab
open Go.RowKit
section
variable {P:Program}
def KEq(K b:Kn):Prop:=∀i,K.get i=b.get i
theorem Kn.get_drop'(K:Kn)(l:List Nat)(x:Nat):(K.drop l).get x=bif memN l x then .undef else K.get x:=by
 induction K with
 |nil=>cases memN l x<;>rfl
 |cons p t ih=>
  obtain⟨j,u⟩:=p;simp only[Kn.drop]
  cases b:memN l j with
  |true=>
   simp only[cond_true,ih,Xb]
   cases c:Wa j x with
   |true=>rw[zH c]at b;rw[b];rfl
   |false=>rfl
  |false=>
   simp only[cond_false,Xb,ih]
   cases c:Wa j x with
   |true=>rw[zH c]at b;rw[b];rfl
   |false=>rfl
theorem KEq.fn{K K'}(h:KEq K K'):K.get=K'.get:=funext h
theorem KEq.rfl'(K):KEq K K:=λ_=>rfl
theorem KEq.set{K K'}(h:KEq K K')(d)(v):KEq (K.set d v) (K'.set d v):=λi=>by rw[Xa,Xa,h i]
theorem KEq.setO{K K'}(h:KEq K K')(d)(v):KEq (Go.Ab.setO K d v) (Go.Ab.setO K' d v):=by
 cases d with
 |none=>exact h
 |some d=>exact h.set d v
theorem KEq.drop{K K'}(h:KEq K K')(l):KEq (K.drop l) (K'.drop l):=λi=>by rw[Kn.get_drop',Kn.get_drop',h i]
theorem zDR{fx}{o}{K d}{H}{c}{k k'}(s:∀K d H c,KEq K d->k K H c->k' d H c)(m:KEq K d)(h:ExK P fx o K H c k):ExK P fx o d H c k':=by
 have key:zeB P fx o.op K.get H c (λv n g=>k (setO K o.dst v) n g)->zeB P fx o.op d.get H c (λv n g=>k' (setO d o.dst v) n g):=λh=>by rw[<-m.fn];exact zd2 (λv H c h=>s _ _ _ _ (m.setO _ _) h) h
 unfold ExK at *
 cases q:o.guard with
 |none=>rw[q]at h;exact key h
 |some p=>
  obtain⟨t,j⟩:=p;rw[q]at h;simp only at h⊢;rw[<-m t]
  cases u:grd j (K.get t)with
  |some b=>rw[u]at h;exact⟨λe=>key (h.1 e),λe=>s _ _ _ _ (m.setO _ _) (h.2 e)⟩
  |none=>rw[u]at h;exact h
def QLe(Q d:QT):Prop:=∀e K b H c,KEq K b->Q e K H c->d e b H c
def QExt(Q:QT):Prop:=QLe Q Q
theorem zDU{Q Q'}(d:QLe Q Q'){drop}:∀{g:List AOper}{K c:Kn}{H:AH}{e:Nat},KEq K c->aops P g drop Q K H e->aops P g drop Q' c H e
 |[],_,_,_,_,b,h=>d _ _ _ _ _ (b.drop _) h
 |_::_,_,_,_,_,b,h=>zDR (λ_ _ _ _ b h=>zDU d b h) b h
theorem zvb{Q Q'}(c:QLe Q Q'){drop}:∀{t:DTree}{K d:Kn}{H:AH}{e:Nat},KEq K d->awpT P t drop Q K H e->awpT P t drop Q' d H e
 |.done,_,_,_,_,b,h=>c _ _ _ _ _ (b.drop _) h
 |.stop,_,_,_,_,_,_=>trivial
 |.step _ _,_,_,_,_,b,h=>zDR (λ_ _ _ _ b h=>zvb c b h) b h
 |.alt _ _ _,_,_,_,_,b,h=>⟨zDR (λ_ _ _ _ b h=>zvb c b h) b h.1,zvb c b h.2⟩
theorem Ent.ext{B}{K K' K2}{H H2}{nx nx2}(b:KEq K K')(h:Ent B K H nx K2 H2 nx2):Ent B K' H nx K2 H2 nx2:=⟨h.1,λw L ι tmps rel c=>h.2 w L ι tmps rel (by rw[b.fn];exact c)⟩
theorem zL7{B}:∀{c:ACode}{Q o:QT}{K k:Kn}{H:AH}{m:Nat},QLe Q o->KEq K k->awp P B c Q K H m->awp P B c o k H m:=by
 intro c
 induction c with
 |skip=>intro Q o K k H m j d h;exact j _ _ _ _ _ d h
 |region Z drop=>intro Q o K k H m j d h;exact zDU j d h
 |draw t drop=>intro Q o K k H m j d h;exact zvb j d h
 |seq a b u v=>
  intro Q o K k H m j d h;refine u (λe K k H m d h=>?_) d h
  cases e with
  |normal=>exact @v Q o K k H m j d h
  |exit id=>exact j _ _ _ _ _ d h
  |ret=>exact j _ _ _ _ _ d h
  |goto l=>exact j _ _ _ _ _ d h
 |cond c a b u v=>
  intro Q o K k H m j d h;unfold awp at h⊢;have e:ev k.get c=ev K.get c:=by rw[d.fn]
  rw[e];cases U:ev K.get c<;>rw[U]at h<;>first|exact h|skip
  exact⟨λe=>u j d (h.1 e),λe=>v j d (h.2 e)⟩
 |block id c D=>
  intro Q o K k H m j d h;refine D (λe K k H m d h=>?_) d h
  cases e with
  |normal=>exact j _ _ _ _ _ d h
  |exit id'=>simp only at h⊢;cases O:Wa id' id<;>rw[O]at h<;>exact j _ _ _ _ _ d h
  |ret=>exact j _ _ _ _ _ d h
  |goto l=>exact j _ _ _ _ _ d h
 |loop c D=>
  intro Q o K k H m j d h;obtain⟨α,S,N,w,μ,⟨a,M,Y⟩,O⟩:=h;refine⟨α,S,N,w,μ,⟨a,M,Y.ext d⟩,λa M C=>D (λe K k H m d h=>?_) (KEq.rfl' _) (O a M C)⟩
  cases e with
  |normal=>obtain⟨y,p,q,F⟩:=h;exact⟨y,p,q,F.ext d⟩
  |exit id=>exact j _ _ _ _ _ d h
  |ret=>exact j _ _ _ _ _ d h
  |goto l=>exact j _ _ _ _ _ d h
 |exit id=>intro Q o K k H m j d h;exact j _ _ _ _ _ d h
 |ret=>intro Q o K k H m j d h;exact j _ _ _ _ _ d h
 |mark n c D=>intro Q o K k H m j d h C;obtain⟨X,W,V,p,q⟩:=h (λi=>by rw[d i];exact C i);exact⟨X,W,V,p.ext d,D j (KEq.rfl' _) q⟩
 |join a b u v=>
  intro Q o K k H m j d h;obtain⟨α,S,N,w,p,q⟩:=h;refine⟨α,S,N,w,u (λe K k H m d h=>?_) d p,λx I C=>v j (KEq.rfl' _) (q x I C)⟩
  cases e with
  |normal=>obtain⟨y,p,q⟩:=h;exact⟨y,p,q.ext d⟩
  |exit id=>exact j _ _ _ _ _ d h
  |ret=>exact j _ _ _ _ _ d h
  |goto l=>exact j _ _ _ _ _ d h
 |scope c D=>
  intro Q o K k H m j d h;refine D (λe K k H m d h=>?_) d h
  cases e with
  |goto l=>exact h
  |normal=>exact j _ _ _ _ _ d h
  |exit id=>exact j _ _ _ _ _ d h
  |ret=>exact j _ _ _ _ _ d h
 |range g ps a b u v=>intro Q o K k H m j d h;obtain⟨σ,f,caps,next,ok,s0,α,K1,S,N,w,invx,nc,Hc,R,U,hgood,hcaps,hit,hok,hlen,hlow,⟨a0,A,T⟩,hround,hdone,I⟩:=h;refine⟨σ,f,caps,next,ok,s0,α,K1,S,N,w,invx,nc,Hc,R,?_,hgood,hcaps,hit,hok,hlen,hlow,⟨a0,A,T.ext d⟩,hround,λa s J p q F=>j _ _ _ _ _ (KEq.rfl' _) (hdone a s J p q F),λa e J p q=>j _ _ _ _ _ (KEq.rfl' _) (I a e J p q)⟩;rw[<-d.fn];exact U
 |label l=>intro Q o K k H m j d h;exact j _ _ _ _ _ d h
 |goto l=>intro Q o K k H m j d h;exact j _ _ _ _ _ d h
 |jump l a b u v=>
  intro Q o K k H m j d h;obtain⟨α,S,N,w,μ,p,q⟩:=h;refine⟨α,S,N,w,μ,u (λe K k H m d h=>?_) d p,λx I C=>v (λe K k H m d h=>?_) (KEq.rfl' _) (q x I C)⟩
  .cases e with
   |goto l=>obtain⟨L,y,p,q⟩:=h;exact⟨L,y,p,q.ext d⟩
   |normal=>exact j _ _ _ _ _ d h
   |exit id=>exact j _ _ _ _ _ d h
   |ret=>exact j _ _ _ _ _ d h
  .cases e with
   |goto l=>obtain⟨L,y,p,q,F⟩:=h;exact⟨L,y,p,q,F.ext d⟩
   |normal=>exact j _ _ _ _ _ d h
   |exit id=>exact j _ _ _ _ _ d h
   |ret=>exact j _ _ _ _ _ d h
theorem QExt.seq{B}{b}{Q}(h:QExt Q):QExt (seqQ P B b Q):=by
 intro e K g H j d c
 cases e with
 |normal=>exact zL7 h d c
 |exit id=>exact h _ _ _ _ _ d c
 |ret=>exact h _ _ _ _ _ d c
 |goto l=>exact h _ _ _ _ _ d c
theorem QExt.block{id}{Q}(h:QExt Q):QExt (zdB id Q):=by
 intro e K g H j c b
 cases e with
 |normal=>exact h _ _ _ _ _ c b
 |exit id'=>unfold zdB at *;simp only at b⊢;cases d:Wa id' id<;>rw[d]at b<;>exact h _ _ _ _ _ c b
 |ret=>exact h _ _ _ _ _ c b
 |goto l=>exact h _ _ _ _ _ c b
theorem QExt.loop{B:Nat}{α:Type}{S:α->Kn×AH}{N:Nat}{d:α->Prop}{μ:α->Nat}{a:α}{Q:QT}(h:QExt Q):QExt (zxo B S N d μ a Q):=by
 intro e K n H o c b
 cases e with
 |normal=>obtain⟨g,j,k,m⟩:=b;exact⟨g,j,k,m.ext c⟩
 |exit id=>exact h _ _ _ _ _ c b
 |ret=>exact h _ _ _ _ _ c b
 |goto l=>exact h _ _ _ _ _ c b
theorem QExt.join{B:Nat}{α:Type}{S:α->Kn×AH}{N:Nat}{d:α->Prop}{Q:QT}(h:QExt Q):QExt (zxh B S N d Q):=by
 intro e K m H n c b
 cases e with
 |normal=>obtain⟨g,j,k⟩:=b;exact⟨g,j,k.ext c⟩
 |exit id=>exact h _ _ _ _ _ c b
 |ret=>exact h _ _ _ _ _ c b
 |goto l=>exact h _ _ _ _ _ c b
theorem zwj{K K'}{H}{nx}(d:KEq K K')(b)(h:zdw K H nx b):zdw K' H nx b:=by
 induction b with
 |nil=>exact h
 |cons r b c=>
  cases r with
  |tmp t=>exact c h
  |cell t a n=>unfold zdw at h⊢;rw[<-d t];exact⟨h.1,c h.2⟩
theorem zv4{K K'}{H}{nx}(c:KEq K K')(b):zcG K H nx b=zcG K' H nx b:=by
 induction b with
 |nil=>rfl
 |cons r b ih=>
  cases r with
  |tmp t=>unfold zcG;rw[c t,ih]
  |cell t a n=>unfold zcG;rw[c t,ih]
theorem QExt.retK{g:List ARet}{c:AV->AH->Nat->Prop}:QExt (retK g c):=by
 intro e K h H j d b;unfold Go.Ab.retK at *
 cases e with
 |exit id=>exact b
 |goto l=>exact b
 |normal=>exact⟨zwj d _ b.1,by rw[<-zv4 d];exact b.2⟩
 |ret=>exact⟨zwj d _ b.1,by rw[<-zv4 d];exact b.2⟩
theorem zj7{fx}{o}{K}{H}{c}{k k'}(g:∀K H c,k K H c->k' K H c)(h:ExK P fx o K H c k):ExK P fx o K H c k':=by
 unfold ExK at *
 cases j:o.guard with
 |none=>rw[j]at h;exact zd2 (λv H c h=>g _ _ _ h) h
 |some p=>
  obtain⟨t,d⟩:=p;rw[j]at h;simp only at h⊢
  cases m:grd d (K.get t)with
  |some b=>rw[m]at h;exact⟨λe=>zd2 (λv H c h=>g _ _ _ h) (h.1 e),λe=>g _ _ _ (h.2 e)⟩
  |none=>rw[m]at h;exact h
theorem alt_of{drop}{Q}{K}{H}{nx}(l)(h:∀p∈l,ExK P false p.1 K H nx (awpT P p.2 drop Q)):awpT P (zLd l) drop Q K H nx:=by
 induction l with
 |nil=>trivial
 |cons p l c=>exact⟨h p (List.mem_cons_self ..),c λq b=>h q (Wp _ b)⟩
theorem zzW{ops}{deps}{drop}{Q}(Inv:List Bool->Kn->AH->Nat->Prop)(e:∀l K H c i,l.length=ops.length->Inv l K H c->i<ops.length->zbD deps l i=true->ExK P false (ops.getD i default) K H c (Inv (l.set i true)))(d:∀l K H c,l.length=ops.length->Inv l K H c->(∀i,i<ops.length->zbD deps l i=false)->Q .normal (K.drop drop) H c) :
  ∀(b:Nat)(l:List Bool)(K:Kn)(H:AH)(c:Nat),l.length=ops.length->zk0 l<=b->Inv l K H c->awpT P (zgb ops deps b l) drop Q K H c
 |
  0,l,K,H,c,hl,hc,h=>by
  refine d l K H c hl h λi g=>?_
  have:=zrF (l:=l) (by omega) i (by omega);unfold zbD;rw[this];rfl
 |
  b+1,l,K,H,c,hl,hc,h=>by
  simp only[zgb];have mem:∀i,i∈(Wi ops.length).filter (zbD deps l)->i<ops.length/\zbD deps l i=true:=λi g=>by have:=Wf.1 g;exact⟨Wl.1 this.1,this.2⟩
  have next:∀i,i<ops.length->zbD deps l i=true->ExK P false (ops.getD i default) K H c (awpT P (zgb ops deps b (l.set i true)) drop Q):=λi g j=>by refine zj7 (λK H c n=>?_) (e l K H c i hl h g j);refine zzW Inv e d b _ K H c (by simpa using hl) ?_ n;have:=ztc (l:=l) (i:=i) (by omega) (zbp.1 j).1;omega
  cases j:(Wi ops.length).filter (zbD deps l)with
  |nil=>
   refine d l K H c hl h λi g=>?_
   cases k:zbD deps l i with
   |false=>rfl
   |true=>have:i∈(Wi ops.length).filter (zbD deps l):=Wf.2 ⟨Wl.2 g,k⟩;rw[j]at this;simp at this
  |cons q r0=>
   simp only
   cases m:(q::r0).find? (zJu ops deps l)with
   |some i=>have:=mem i (by rw[j];exact List.mem_of_find?_eq_some m);exact next i this.1 this.2
   |none=>
    refine alt_of _ λp o=>?_
    obtain⟨i,g,rfl⟩:=List.mem_map.1 o;have:=mem i (by rw[j];exact g);exact next i this.1 this.2
def zaL:Kn->List (Nat×AV)->Kn
 |K,[]=>K
 |K,(d,v)::r=>zaL (K.set d v) r
def zC2(b:Kn):Option Nat->Kn->Prop
 |none,_=>True
 |some d,K=>K.get d=b.get d
def znI(P:Program)(c:Kn)(o:AOper)(a b:AH×Nat):Prop:=zbd P (.tree (.step o .done)) [] (λ_ K H d=>zC2 c o.dst K/\H=b.1/\d=b.2) c a.1 a.2
abbrev Plan:=List (Nat×List Nat×List Nat)
def zxw(P:Program)(ops:List AOper)(c:Kn)(b:List Nat->AH×Nat):Plan->Prop
 |[]=>True
 |(i,S,d)::r=>znI P c (ops.getD i default) (b S) (b d)/\zxw P ops c b r
def beqL:List Nat->List Nat->Bool
 |[],[]=>true
 |a::l,b::m=>Wa a b&&beqL l m
 |_,_=>false
theorem zoP:∀{l m:List Nat},beqL l m=true->l=m
 |[],[],_=>rfl
 |
  a::l,b::m,h=>by
  simp only[beqL,Wg]at h;rw[zH h.1,zoP h.2]
 |[],_::_,h=>by cases h
 |_::_,[],h=>by cases h
def memP:Plan->Nat->List Nat->List Nat->Bool
 |[],_,_,_=>false
 |(i,k,d)::r,a,b,c=>(Wa i a&&(beqL k b&&beqL d c))||memP r a b c
def anyP:Plan->Nat->Bool
 |[],_=>false
 |(i,k,b)::r,a=>(Wa i a&&beqL k b)||anyP r a
def memS:List (List Nat)->List Nat->Bool
 |[],_=>false
 |a::r,b=>beqL a b||memS r b
theorem zsN:∀ {l:List (List Nat)}{b:List Nat},memS l b=true->b∈l
 |[],_,h=>by cases h
 |
  a::r,b,h=>by
  simp only[memS,Wj]at h;rcases h with h|h
  .rw[zoP h];simp
  .exact Wp _ (zsN h)
theorem zpu{ops}{Kf}{hs}:∀{l:Plan},zxw P ops Kf hs l->∀{a:Nat}{b c:List Nat},memP l a b c=true->znI P Kf (ops.getD a default) (hs b) (hs c)
 |[],_,_,_,_,h=>by cases h
 |
  (i,k,k')::r,h,a,b,c,d=>by
  simp only[memP,Wj,Wg]at d;rcases d with ⟨e,g,j⟩|d
  .rw[<-zH e,<-zoP g,<-zoP j];exact h.1
  .exact zpu h.2 d
theorem zwN{ops}{Kf}{hs}:∀{l:Plan},zxw P ops Kf hs l->∀{a:Nat},anyP l a=true->∃b,znI P Kf (ops.getD a default) (hs b) (hs b)
 |[],_,_,h=>by cases h
 |
  (i,k,k')::r,h,a,c=>by
  simp only[anyP,Wj,Wg]at c;rcases c with ⟨d,e⟩|c
  .rw[<-zH d];have:=h.1;rw[<-zoP e]at this;exact⟨_,this⟩
  .exact zwN h.2 c
def zhX(b:List Nat)(A:List (List Nat))(i:Nat)(S:List Nat):Bool :=
 !memN S i&&(b.all (λm=> !memN (A.getD i []) m||memN S m)&&S.all λm=> !memN (A.getD m []) i)
def zr2(b:List Nat)(i:Nat)(S:List Nat):List Nat:=b.filter λm=>Wa m i||memN S m
structure DrawOk(ops:List AOper)(deps:List (List Nat))(Ls:List Nat)(A:List (List Nat))(St:List (List Nat))(plan:Plan)(ks:List Nat):Prop where
 low:∀(i:Nat),i<ops.length->∀j∈deps.getD i [],j<i
 clo:∀(i:Nat),i<ops.length->∀j∈A.getD i [],j∈deps.getD i []\/∃d∈deps.getD i [],j∈A.getD d []
 one:∀(i j d:Nat),i<ops.length->j<ops.length->(ops.getD i default).dst=some d->(ops.getD j default).dst=some d->i=j
 keys:∀k∈ks,∃o∈ops,o.dst=some k
 look:∀(i:Nat),i<ops.length->∀t∈(ops.getD i default).looks,(∃j∈A.getD i [],(ops.getD j default).dst=some t)\/∀o∈ops,o.dst≠some t
 lin:∀i∈Ls,i<ops.length
 st0:[]∈St
 stc:∀S∈St,∀i∈Ls,zhX Ls A i S=true->zr2 Ls i S∈St
 plan:∀(i:Nat),i<ops.length->((ops.getD i default).fixed=true/\(ops.getD i default).sees=false/\i∉Ls/\anyP plan i=true) \/
  (i∉Ls/\∀S∈St,zhX Ls A i S=true->memP plan i S S=true)\/(i∈Ls/\∀S∈St,zhX Ls A i S=true->memP plan i S (zr2 Ls i S)=true)
def allB(n:Nat)(p:Nat->Bool):Bool:=(Wi n).all p
def zGJ(ops:List AOper)(b:List (List Nat))(g:List Nat)(A:List (List Nat))(St:List (List Nat))(c:Plan)(h:List Nat):Bool :=
 allB ops.length (λi=>(b.getD i []).all λj=>Wd j i) &&
 allB ops.length (λi=>(A.getD i []).all λj=>memN (b.getD i []) j||(b.getD i []).any λd=>memN (A.getD d []) j) &&
 allB ops.length (λi=>allB i λj=>match (ops.getD i default).dst,(ops.getD j default).dst with|some d,some e=> !Nat.beq d e|_,_=>true) &&
 h.all (λk=>ops.any λo=>match o.dst with|some d=>Wa d k|none=>false) &&
 allB ops.length (λi=>(ops.getD i default).looks.all λt=>((A.getD i []).any λj=>match (ops.getD j default).dst with|some d=>Wa d t|none=>false)||ops.all λo=>match o.dst with|some d=> !Nat.beq d t|none=>true) &&
 g.all (λi=>Wd i ops.length) &&
 memS St [] &&
 St.all (λS=>g.all λi=> !zhX g A i S||memS St (zr2 g i S)) &&
 allB ops.length (λi=>bif memN g i then St.all λS=> !zhX g A i S||memP c i S (zr2 g i S)
  else((ops.getD i default).fixed&&(!(ops.getD i default).sees&&anyP c i))||St.all λS=> !zhX g A i S||memP c i S S)
theorem zbW{n}{p}(h:allB n p=true){i}(b:i<n):p i=true:=We.1 h i (Wl.2 b)
theorem impB{a b}(h:(!a||b)=true)(c:a=true):b=true:=by subst c;simpa using h
theorem zH0{ops}{deps}{Ls}{A}{St}{plan}{ks}(h:zGJ ops deps Ls A St plan ks=true):DrawOk ops deps Ls A St plan ks:=by
 unfold zGJ at h;simp only[Wg]at h;obtain⟨⟨⟨⟨⟨⟨⟨⟨w,x⟩,h3⟩,h4⟩,h5⟩,h6⟩,h7⟩,h8⟩,h9⟩:=h;have g:∀i j d,i<ops.length->j<i->(ops.getD i default).dst=some d->(ops.getD j default).dst=some d->False:=λi j d b c s u=>by have:=zbW (zbW h3 b) c;rw[s,u]at this;simp[zcA]at this
 constructor
 .intro i b j c;exact Wm (We.1 (zbW w b) j c)
 .intro i b j c;have:=We.1 (zbW x b) j c;rcases Wn.1 this with this|this
  .exact .inl ((zaq _ _).1 this)
  .obtain⟨d,hd,m⟩:=Wo.1 this;exact .inr ⟨d,hd,(zaq _ _).1 m⟩
 .intro i j d b c s u;rcases Nat.lt_trichotomy i j with h|h|h
  .exact(g j i d c h u s).elim
  .exact h
  .exact(g i j d b h s u).elim
 .intro k y;obtain⟨o,v,hd⟩:=Wo.1 (We.1 h4 k y);refine⟨o,v,?_⟩
  cases e:o.dst with
  |none=>rw[e]at hd;cases hd
  |some d=>rw[e]at hd;rw[zH hd]
 .intro i b t B;have:=We.1 (zbW h5 b) t B;rcases Wn.1 this with this|this
  .obtain⟨j,c,hd⟩:=Wo.1 this;refine .inl ⟨j,c,?_⟩
   cases e:(ops.getD j default).dst with
   |none=>rw[e]at hd;cases hd
   |some d=>rw[e]at hd;rw[zH hd]
  .refine .inr λo v e=>?_
   have:=We.1 this o v;rw[e]at this;simp[zcA]at this
 .intro i b;exact Wm (We.1 h6 i b)
 .exact zsN h7
 .intro S n i b p;exact zsN (impB (We.1 (We.1 h8 S n) i b) p)
 .intro i b;have:=zbW h9 b
  cases m:memN Ls i with
  |true=>rw[m]at this;exact .inr (.inr ⟨(zaq _ _).1 m,λS n p=>impB (We.1 this S n) p⟩)
  |false=>
   rw[m]at this;have q:=zpS m;rcases Wn.1 this with this|this
   .simp only[Wg,Wq]at this;exact .inl ⟨this.1,this.2.1,q,this.2.2⟩
   .exact .inr (.inl ⟨q,λS n p=>impB (We.1 this S n) p⟩)
theorem ztP:∀ {b:List (Nat×AV)}{K:Kn}{t:Nat},t∉b.map (·.1)->(zaL K b).get t=K.get t
 |[],_,_,_=>rfl
 |
  (d,v)::r,K,t,h=>by
  simp only[List.map_cons,List.mem_cons,not_or]at h;rw[zaL,ztP h.2,Xa,if_neg h.1]
def zux:List (Nat×AV)->Nat->Option AV
 |[],_=>none
 |
  (d,v)::r,t=>match zux r t with
  |some u=>some u
  |none=>bif Wa d t then some v else none
def zAL(K:Kn)(t:Nat):Option AV->AV
 |some v=>v
 |none=>K.get t
theorem zi:∀ {b:List (Nat×AV)}{K:Kn}{t:Nat},(zaL K b).get t=zAL K t (zux b t)
 |[],_,_=>rfl
 |
  (d,v)::r,K,t=>by
  rw[zaL,zi];simp only[zux]
  cases zux r t with
  |some u=>rfl
  |none=>
   simp only[zAL,Xa];by_cases h:t=d
   .subst h;simp[zcA,zAL]
   .simp[h,zfm (Ne.symm h),zAL]
structure DInv(ops:List AOper)(deps:List (List Nat))(Ls:List Nat)(St:List (List Nat))(Kf:Kn)(hs:List Nat->AH×Nat)(l:List Bool)(K:Kn)(H:AH)(nx:Nat):Prop where
 clo:∀i,i<ops.length->getB l i=true->∀j∈deps.getD i [],getB l j=true
 done:∀i d,i<ops.length->getB l i=true->(ops.getD i default).dst=some d->K.get d=Kf.get d
 rest:∀t,(∀o∈ops,o.dst≠some t)->K.get t=Kf.get t
 here:Ls.filter (getB l)∈St
 rows:(H,nx)=hs (Ls.filter (getB l))
theorem zu9{ops:List AOper}{i:Nat}(h:i<ops.length):ops.getD i default∈ops:=by rw[Wk,Wr h];exact List.getElem_mem h
theorem zDW{ops}{b}{Ls}{A}{St}{plan}{ks}(ok:DrawOk ops b Ls A St plan ks){l}(m:∀i,i<ops.length->getB l i=true->∀j∈b.getD i [],getB l j=true):∀(i:Nat),i<ops.length->(∀j∈b.getD i [],getB l j=true)->∀j∈A.getD i [],getB l j=true:=by
 intro i
 induction i using Nat.strongRecOn with
 |_ i ih=>
  intro g hd j n;rcases ok.clo i g j n with h|⟨d,e,k⟩
  .exact hd j h
  .have c:=ok.low i g d e;exact ih d c (by omega) (m d (by omega) (hd d e)) j k
theorem zi3(K:Kn)(t:Nat):(K.drop []).get t=K.get t:=by rw[Kn.get_drop'];rfl
theorem zur{Kf}{o}{H}{c}{v}(w:o.fixed=true)(u:Yld P o Kf.get H c v)(s:∀d,o.dst=some d->upd Kf.get o.dst v d=Kf.get d):znI P Kf o (H,c) (H,c):=by
 have h:=zse (k:=λρ H2 nx2=>(∀d,o.dst=some d->ρ d=Kf.get d)/\H2=H/\nx2=c) u ⟨s,rfl,rfl⟩;unfold znI zbd;simp only[awpT];unfold ExF at h;unfold ExK
 have conv:∀{v:AV}{H2:AH}{nx2:Nat},((∀d,o.dst=some d->upd Kf.get o.dst v d=Kf.get d)/\H2=H/\nx2=c)->zC2 Kf o.dst ((setO Kf o.dst v).drop [])/\H2=H/\nx2=c:=λ{v H2 nx2} n=>by
  refine⟨?_,n.2⟩
  cases e:o.dst with
  |none=>trivial
  |some d=>have j:=n.1 d e;rw[e,<-zr8]at j;show Xb _ d=_;rw[zi3];exact j
 cases m:o.guard with
 |none=>rw[m]at h;exact zd2 (λv H c h=>conv h) h
 |some p=>
  obtain⟨t,g⟩:=p;rw[m]at h;simp only at h⊢
  cases q:grd g (Kf.get t)with
  |some b=>rw[q]at h;exact⟨λe=>zd2 (λv H c h=>conv h) (h.1 e),λe=>by simpa using conv (v:=.tup []) (H2:=H) (nx2:=c) ⟨(h.2 e).1,rfl,rfl⟩⟩
  |none=>rw[q]at h;exact h
theorem zwu{Kf K}{o}{H}{m}{b}(n:∀t∈o.looks,K.get t=Kf.get t)(h:znI P Kf o (H,m) b):
  ExK P false o K H m (λs g c=>zC2 Kf o.dst s/\(∀t,o.dst≠some t->s.get t=K.get t)/\(g,c)=b):=by
 unfold znI zbd at h;simp only[awpT]at h
 have conv:∀{v:AV}{g:AH}{c:Nat},(zC2 Kf o.dst ((setO Kf o.dst v).drop [])/\g=b.1/\c=b.2)->zC2 Kf o.dst (setO K o.dst v)/\(∀t,o.dst≠some t->(setO K o.dst v).get t=K.get t)/\(g,c)=b:=λ{v g c} C=>by
  obtain⟨u,A,B⟩:=C;refine⟨?_,λt j=>?_,by rw[A,B]⟩
  .cases e:o.dst with
   |none=>trivial
   |some d=>rw[e]at u;have w:Xb _ d=_:=u;rw[zi3]at w;show Xb _ d=_;rw[<-w];simp only[setO,Xa,if_true]
  .cases e:o.dst with
   |none=>rfl
   |some d=>
    have:¬t=d:=λy=>j (by rw[e,y])
    simp only[setO,Xa,if_neg this]
 unfold ExK at *
 cases q:o.guard with
 |none=>rw[q]at h;simp only at h⊢;rw[zrr (ρ':=Kf.get) (λt j=>n t (zsh j))];exact zd2 (λv H m h=>conv h) h
 |some p=>
  obtain⟨t,k⟩:=p;rw[q]at h;simp only at h⊢;rw[n t (zri q)]
  cases x:grd k (Kf.get t)with
  |some b=>rw[x]at h;refine⟨λe=>?_,λe=>conv (h.2 e)⟩;rw[zrr (ρ':=Kf.get) (λt j=>n t (zsh j))];exact zd2 (λv H m h=>conv h) (h.1 e)
  |none=>rw[x]at h;exact h
theorem zkR{ops}{Kf}{hs}:zxw P ops Kf hs []=True:=rfl
theorem zis{ops}{Kf}{hs}{i}{S S'}{r}:zxw P ops Kf hs ((i,S,S')::r)=(znI P Kf (ops.getD i default) (hs S) (hs S')/\zxw P ops Kf hs r):=rfl
theorem zci{Kf}{d}{v}:zC2 Kf (some d) ((Kf.set d v).drop [])=(v=Kf.get d):=by show(((Kf.set d v).drop []).get d=Kf.get d)=_;rw[zi3,Xa,if_pos rfl]
theorem zbt{Kf K}:zC2 Kf none K=True:=rfl
def zzX(drop:List Nat):List (Nat×AV)->List (Nat×AV)
 |[]=>[]
 |(d,v)::r=>bif memN drop d then zzX drop r else(d,v)::zzX drop r
theorem zyD{drop}{t}:∀ {vs:List (Nat×AV)},zux (zzX drop vs) t=bif memN drop t then none else zux vs t
 |[]=>by cases memN drop t<;>rfl
 |
  (d,v)::r=>by
  have c:=zyD (drop:=drop) (t:=t) (vs:=r);simp only[zzX,zux]
  cases hd:memN drop d with
  |true=>
   simp only[cond_true,c]
   cases b:memN drop t with
   |true=>rfl
   |false=>
    have:Wa d t=false:=zfm λe=>by rw[e,b]at hd;cases hd
    simp only[cond_false,this];cases zux r t<;>rfl
  |false=>
   simp only[cond_false,zux,c]
   cases b:memN drop t with
   |true=>
    have:Wa d t=false:=zfm λe=>by rw[e,b]at hd;cases hd
    simp only[cond_true,this,cond_false]
   |false=>simp only[cond_false]
theorem zEJ{drop}{b kept}{K0}(h:zzX drop b=kept):KEq (zaL (K0.drop drop) kept) ((zaL K0 b).drop drop):=λt=>by
 rw[<-h,zi,zyD,Kn.get_drop',zi]
 cases c:memN drop t with
 |true=>simp only[cond_true,zAL,Kn.get_drop',c]
 |false=>
  simp only[cond_false]
  cases zux b t with
  |some v=>rfl
  |none=>simp only[zAL,Kn.get_drop',c,cond_false]
def hsOf(l:List (AH×Nat))(S:List Nat):AH×Nat:=l.getD S.length ([],0)
theorem zsA{ops:List AOper}{w:List (List Nat)}{drop:List Nat}{Q:QT}{F:Kn}{H0:AH}{V n:Nat}(k:List Nat)(A St:List (List Nat))(N:Plan)(O:List (Nat×AV))(W:List Nat->AH×Nat)(hc:zGJ ops w k A St N (O.map (·.1))=true)(hn:n=ops.length)(h0:W []=(H0,V))(hq:QExt Q)(hp':∀(Kf:Kn)(hs':List Nat->AH×Nat),Kf=zaL F O->hs'=W->zxw P ops Kf hs' N)(M:List (Nat×AV))(S:zzX drop O=M)(he:Q .normal (zaL (F.drop drop) M) (W k).1 (W k).2) :
  zbd P (.tree (zgb ops w n (Wh n false))) drop Q F H0 V:=by
 have ok:=zH0 hc;have hp:=hp' _ _ rfl rfl;subst hn;have getR:∀i,getB (Wh ops.length false) i=false:=λi=>by unfold getB;rw[Wk,List.getElem?_replicate];split<;>rfl
 have noR:k.filter (getB (Wh ops.length false))=[]:=by rw[List.filter_eq_nil_iff];intro i _;rw[getR];simp
 have R:∀m,zk0 (Wh m false)=m:=by
  intro m
  induction m with
  |zero=>rfl
  |succ m ih=>rw[List.replicate_succ,zk0,ih];simp;omega
 refine zzW (DInv ops w k St (zaL F O) W) ?_ ?_ ops.length _ F H0 V (by simp) (by rw[R];omega) ⟨λi _ h=>(by rw[getR]at h;cases h),λi d _ h=>(by rw[getR]at h;cases h),λt X=>?_,?_,?_⟩
 .intro l K H nx i hl c y U;obtain⟨hun,D⟩:=zbp.1 U;have hA:=zDW ok c.clo i y D
  have hlk:∀t∈(ops.getD i default).looks,K.get t=(zaL F O).get t:=λt X=>by
   rcases ok.look i y t X with ⟨j,I,hd⟩|h
   .have g:=hA j I;have hjn:j<ops.length:=by apply Classical.byContradiction;intro hcon;unfold getB at g;rw[Wk,List.getElem?_eq_none (by omega)]at g;cases g
    exact c.done j t hjn g hd
   .exact c.rest t h
  have s:zhX k A i (k.filter (getB l))=true:=by
   unfold zhX;simp only[Wg,Wq,We,Wj];refine⟨?_,λm x=>?_,λm x=>?_⟩
   .cases q:memN (k.filter (getB l)) i with
    |false=>rfl
    |true=>have:=(Wf.1 ((zaq _ _).1 q)).2;rw[hun]at this;cases this
   .cases q:memN (A.getD i []) m with
    |false=>exact .inl rfl
    |true=>exact .inr ((zaq _ _).2 (Wf.2 ⟨x,hA m ((zaq _ _).1 q)⟩))
   .obtain⟨hmL,hml⟩:=Wf.1 x
    cases q:memN (A.getD m []) i with
    |false=>rfl
    |true=>have:=zDW ok c.clo m (ok.lin m hmL) (c.clo m (ok.lin m hmL) hml) i ((zaq _ _).1 q);rw[hun]at this;cases this
  have key:∃b,znI P (zaL F O) (ops.getD i default) (H,nx) b/\b=W (k.filter (getB (l.set i true)))/\k.filter (getB (l.set i true))∈St:=by
   have p:i∉k->k.filter (getB (l.set i true))=k.filter (getB l):=λu=>by
    refine Ws λm x=>?_
    rw[zhq (by omega),if_neg (λe:m=i=>u (by rw[<-e];exact x))]
   rcases ok.plan i y with ⟨hf,hse,u,ha⟩|⟨u,hk⟩|⟨hin,hk⟩
   .obtain⟨b,q⟩:=zwN hp ha;refine⟨(H,nx),?_,by rw[p u];exact c.rows,by rw[p u];exact c.here⟩;unfold znI zbd at q;simp only[awpT]at q
    have J:=ztp (k':=λρ H2 nx2=>∀d,(ops.getD i default).dst=some d->ρ d=(zaL F O).get d) (λK2 H2 nx2 hh d e=>by
     have h3:=hh.1;rw[e]at h3;have h4:Xb _ d=_:=h3;rw[zi3]at h4
     exact h4) q
    obtain⟨v,hy,hv⟩:=zrV hf J;exact zur hf (zzS (H':=H) (nx':=nx) hse hy) hv
   .refine⟨(H,nx),?_,by rw[p u];exact c.rows,by rw[p u];exact c.here⟩;have:=zpu hp (hk _ c.here s);rw[<-c.rows]at this;exact this
   .have hnx:zr2 k i (k.filter (getB l))=k.filter (getB (l.set i true)):=by
     unfold zr2;refine Ws λm x=>?_
     rw[zhq (by omega)];by_cases C:m=i
     .subst C;simp[zcA]
     .rw[if_neg C,zfm C,Bool.false_or]
      cases q:getB l m with
      |true=>exact(zaq _ _).2 (Wf.2 ⟨x,q⟩)
      |false=>
       cases hb2:memN (k.filter (getB l)) m with
       |false=>rfl
       |true=>have:=(Wf.1 ((zaq _ _).1 hb2)).2;rw[q]at this;cases this
    have J:=zpu hp (hk _ c.here s);have Y:=ok.stc _ c.here i hin s;rw[hnx]at J Y;rw[<-c.rows]at J;exact⟨_,J,rfl,Y⟩
  obtain⟨b,q,hbe,hbs⟩:=key;refine zj7 (λK2 H2 nx2 hh=>?_) (zwu hlk q);obtain⟨J,Y,h3⟩:=hh;refine⟨?_,?_,?_,hbs,?_⟩
  .intro j I g m x;rw[zhq (by omega)]at g⊢;by_cases C:m=i
   .rw[if_pos C]
   .rw[if_neg C];by_cases B:j=i
    .subst B;exact D m x
    .rw[if_neg B]at g;exact c.clo j I g m x
  .intro j d I g hd;rw[zhq (by omega)]at g;by_cases B:j=i
   .subst B;rw[hd]at J;exact J
   .rw[if_neg B]at g;rw[Y d (λe=>B (ok.one j i d I y hd e))];exact c.done j d I g hd
  .intro t X;rw[Y t (X _ (zu9 y))];exact c.rest t X
  .rw[<-hbe,h3]
 .intro l K H nx hl c T
  have L:∀i,i<ops.length->getB l i=true:=by
   intro i
   induction i using Nat.strongRecOn with
   |_ i ih=>
    intro y;have:=T i y
    cases q:getB l i with
    |true=>rfl
    |false=>have U:zbD w l i=true:=zbp.2 ⟨q,λj I=>ih j (ok.low i y j I) (by have:=ok.low i y j I;omega)⟩;rw[this]at U;cases U
  have hK:KEq (zaL F O) K:=λt=>by
   by_cases h:∃o∈ops,o.dst=some t
   .obtain⟨o,ho,hd⟩:=h;obtain⟨i,y,he⟩:=List.mem_iff_getElem.1 ho;have e:ops.getD i default=o:=by rw[Wk,Wr y,he];rfl
    exact(c.done i t y (L i y) (by rw[e];exact hd)).symm
   .exact(c.rest t (λo ho e=>h ⟨o,ho,e⟩)).symm
  have Z:k.filter (getB l)=k:=List.filter_eq_self.2 (λm x=>L m (ok.lin m x));have U:=c.rows;rw[Z]at U;rw[<-U]at he;exact hq _ _ _ _ _ (λt=>(zEJ S t).trans (hK.drop drop t)) he
 .rw[ztP];intro x;obtain⟨o,ho,hd⟩:=ok.keys t x;exact X o ho hd
 .rw[noR];exact ok.st0
 .rw[noR];exact h0.symm
end
theorem zK{α:Type}{f:α->List AV}{l:List α}(h:∀a,zR (f a)=true):zA (l.map f):=λc b=>by obtain⟨a,_,rfl⟩:=List.mem_map.1 b;exact h a
theorem zT{c}(h:zR c=true):zA [c]:=λd hd=>by rw[List.mem_singleton.1 hd];exact h
theorem znS:zA []:=λd hd=>by cases hd
theorem zcx{c}{l}(h:zR c=true)(b:zA l):zA (c::l):=λd hd=>by
 rcases List.mem_cons.1 hd with rfl|hd
 .exact h
 .exact b d hd
theorem zpI{l m}(h:zA l)(b:zA m):zA (l++m):=λd hd=>by
 rcases List.mem_append.1 hd with hd|hd
 .exact h d hd
 .exact b d hd
theorem zq{H HH}{σ}{D}{t}:∀{l:List AV},zR l=true->VwL H HH σ D t l l
 |[],_=>trivial
 |
  a::l,h=>by
  simp only[zR,Wg]at h;exact⟨zcL h.1,zq h.2⟩
theorem RowV.of_flat{H HH}{σ}{D}{els}(h:zA els):RowV H HH σ D els els:=znd h
def hsAt:List (List Nat×AH×Nat)->List Nat->AH×Nat
 |[],_=>([],0)
 |(T,x)::r,S=>bif beqL T S then x else hsAt r S
theorem evA:type_of% @evS/\type_of% @evZ/\type_of% @evX/\type_of% @evK/\type_of% @evB/\type_of% @evL/\type_of% @evR:=⟨@evS,@evZ,@evX,@evK,@evB,@evL,@evR⟩
theorem evWA:type_of% @evW/\type_of% @evK/\type_of% @evB/\type_of% @evL:=⟨@evW,@evK,@evB,@evL⟩
theorem dis1{p:Prop}(h:p:=by first|omega|(simp only[evF,evL,implies_true,and_self];done)|fail):p:=h
def Im(q p:Prop):Prop:=q->p
theorem Im.i{α:Sort _}{q p:α->Prop}(h:∀x,Im (q x) (p x)):Im (∀x,q x) (∀x,p x):=λk x=>h x (k x)
theorem Im.a{q a b:Prop}(c:a)(h:Im q b):Im q (a/\b):=λk=>⟨c,h k⟩
theorem Im.r{p:Prop}:Im p p:=λh=>h
theorem m9P{a b:Type}{f:a->b}{l m:List a}:(l++m).map f=l.map f++m.map f:=by simp
theorem aJ{a b:Prop}(d:b)(c:a:=by with_unfolding_all omega):a/\b:=⟨c,d⟩
theorem Gw0{p q:Prop}(k:q)(h:Im q p:=by(repeat first|simp(disch:=try exact dis1) only[evD,Nat.reduceBEq,Nat.reduceAdd,Nat.reduceLeDiff]|((with_reducible apply Im.i);intro _)|((with_reducible apply Im.a);omega));exact Im.r):p:=h k
theorem Gw1{b p q:Prop}(a0:b)(k:q)(h:b->Im q p:=by intro a0;(repeat first|simp(disch:=try exact dis1) only[evD,Nat.reduceBEq,Nat.reduceAdd,Nat.reduceLeDiff,a0]|((with_reducible apply Im.i);intro _)|((with_reducible apply Im.a);omega));exact Im.r):p:=h a0 k
theorem Gw2{c d p q:Prop}(a0:c)(b:d)(k:q)(h:c->d->Im q p:=by intro a0 b;(repeat first|simp(disch:=try exact dis1) only[evD,Nat.reduceBEq,Nat.reduceAdd,Nat.reduceLeDiff,a0,b]|((with_reducible apply Im.i);intro _)|((with_reducible apply Im.a);omega));exact Im.r):p:=h a0 b k
theorem Gw3{d e g p q:Prop}(a0:d)(b:e)(c:g)(k:q)(h:d->e->g->Im q p:=by intro a0 b c;(repeat first|simp(disch:=try exact dis1) only[evD,Nat.reduceBEq,Nat.reduceAdd,Nat.reduceLeDiff,a0,b,c]|((with_reducible apply Im.i);intro _)|((with_reducible apply Im.a);omega));exact Im.r):p:=h a0 b c k
theorem Gw4{d e g j p q:Prop}(a0:d)(b:e)(c:g)(a3:j)(k:q)(h:d->e->g->j->Im q p:=by intro a0 b c a3;(repeat first|simp(disch:=try exact dis1) only[evD,Nat.reduceBEq,Nat.reduceAdd,Nat.reduceLeDiff,a0,b,c,a3]|((with_reducible apply Im.i);intro _)|((with_reducible apply Im.a);omega));exact Im.r):p:=h a0 b c a3 k
theorem Gw5{d e g j m p q:Prop}(a0:d)(b:e)(c:g)(a3:j)(a4:m)(k:q)(h:d->e->g->j->m->Im q p:=by intro a0 b c a3 a4;(repeat first|simp(disch:=try exact dis1) only[evD,Nat.reduceBEq,Nat.reduceAdd,Nat.reduceLeDiff,a0,b,c,a3,a4]|((with_reducible apply Im.i);intro _)|((with_reducible apply Im.a);omega));exact Im.r):p:=h a0 b c a3 a4 k
theorem Gw6{d e g j m n p q:Prop}(a0:d)(b:e)(c:g)(a3:j)(a4:m)(a5:n)(k:q)(h:d->e->g->j->m->n->Im q p:=by intro a0 b c a3 a4 a5;(repeat first|simp(disch:=try exact dis1) only[evD,Nat.reduceBEq,Nat.reduceAdd,Nat.reduceLeDiff,a0,b,c,a3,a4,a5]|((with_reducible apply Im.i);intro _)|((with_reducible apply Im.a);omega));exact Im.r):p:=h a0 b c a3 a4 a5 k
theorem Gw7{e g j m n o s p q:Prop}(a0:e)(b:g)(c:j)(a3:m)(a4:n)(a5:o)(d:s)(k:q)(h:e->g->j->m->n->o->s->Im q p:=by intro a0 b c a3 a4 a5 d;(repeat first|simp(disch:=try exact dis1) only[evD,Nat.reduceBEq,Nat.reduceAdd,Nat.reduceLeDiff,a0,b,c,a3,a4,a5,d]|((with_reducible apply Im.i);intro _)|((with_reducible apply Im.a);omega));exact Im.r):p:=h a0 b c a3 a4 a5 d k
theorem Gw8{g j m n o s t u p q:Prop}(a0:g)(b:j)(c:m)(a3:n)(a4:o)(a5:s)(d:t)(e:u)(k:q)(h:g->j->m->n->o->s->t->u->Im q p:=by intro a0 b c a3 a4 a5 d e;(repeat first|simp(disch:=try exact dis1) only[evD,Nat.reduceBEq,Nat.reduceAdd,Nat.reduceLeDiff,a0,b,c,a3,a4,a5,d,e]|((with_reducible apply Im.i);intro _)|((with_reducible apply Im.a);omega));exact Im.r):p:=h a0 b c a3 a4 a5 d e k
theorem Gw9{j m n o s t u v w p q:Prop}(a0:j)(b:m)(c:n)(a3:o)(a4:s)(a5:t)(d:u)(e:v)(g:w)(k:q)(h:j->m->n->o->s->t->u->v->w->Im q p:=by intro a0 b c a3 a4 a5 d e g;(repeat first|simp(disch:=try exact dis1) only[evD,Nat.reduceBEq,Nat.reduceAdd,Nat.reduceLeDiff,a0,b,c,a3,a4,a5,d,e,g]|((with_reducible apply Im.i);intro _)|((with_reducible apply Im.a);omega));exact Im.r):p:=h a0 b c a3 a4 a5 d e g k
theorem Gw10{j m n o s t u v w x p q:Prop}(a0:j)(b:m)(c:n)(a3:o)(a4:s)(a5:t)(d:u)(e:v)(g:w)(a9:x)(k:q)(h:j->m->n->o->s->t->u->v->w->x->Im q p:=by intro a0 b c a3 a4 a5 d e g a9;(repeat first|simp(disch:=try exact dis1) only[evD,Nat.reduceBEq,Nat.reduceAdd,Nat.reduceLeDiff,a0,b,c,a3,a4,a5,d,e,g,a9]|((with_reducible apply Im.i);intro _)|((with_reducible apply Im.a);omega));exact Im.r):p:=h a0 b c a3 a4 a5 d e g a9 k
theorem Gw11{n o s t u v w x y A c p q:Prop}(a0:n)(d:o)(e:s)(a3:t)(a4:u)(a5:v)(g:w)(j:x)(m:y)(a9:A)(b:c)(k:q)(h:n->o->s->t->u->v->w->x->y->A->c->Im q p:=by intro a0 d e a3 a4 a5 g j m a9 b;(repeat first|simp(disch:=try exact dis1) only[evD,Nat.reduceBEq,Nat.reduceAdd,Nat.reduceLeDiff,a0,d,e,a3,a4,a5,g,j,m,a9,b]|((with_reducible apply Im.i);intro _)|((with_reducible apply Im.a);omega));exact Im.r):p:=h a0 d e a3 a4 a5 g j m a9 b k
theorem Gw12{s t u v w x y A B C d e p q:Prop}(a0:s)(g:t)(j:u)(a3:v)(a4:w)(a5:x)(m:y)(n:A)(o:B)(a9:C)(b:d)(c:e)(k:q)(h:s->t->u->v->w->x->y->A->B->C->d->e->Im q p:=by intro a0 g j a3 a4 a5 m n o a9 b c;(repeat first|simp(disch:=try exact dis1) only[evD,Nat.reduceBEq,Nat.reduceAdd,Nat.reduceLeDiff,a0,g,j,a3,a4,a5,m,n,o,a9,b,c]|((with_reducible apply Im.i);intro _)|((with_reducible apply Im.a);omega));exact Im.r):p:=h a0 g j a3 a4 a5 m n o a9 b c k
theorem Gw13{u v w x y A B C D F e g j p q:Prop}(a0:u)(m:v)(n:w)(a3:x)(a4:y)(a5:A)(o:B)(s:C)(t:D)(a9:F)(b:e)(c:g)(d:j)(k:q)(h:u->v->w->x->y->A->B->C->D->F->e->g->j->Im q p:=by intro a0 m n a3 a4 a5 o s t a9 b c d;(repeat first|simp(disch:=try exact dis1) only[evD,Nat.reduceBEq,Nat.reduceAdd,Nat.reduceLeDiff,a0,m,n,a3,a4,a5,o,s,t,a9,b,c,d]|((with_reducible apply Im.i);intro _)|((with_reducible apply Im.a);omega));exact Im.r):p:=h a0 m n a3 a4 a5 o s t a9 b c d k
theorem Gw14{w x y A B C D F H I g j m n p q:Prop}(a0:w)(o:x)(s:y)(a3:A)(a4:B)(a5:C)(t:D)(u:F)(v:H)(a9:I)(b:g)(c:j)(d:m)(e:n)(k:q)(h:w->x->y->A->B->C->D->F->H->I->g->j->m->n->Im q p:=by intro a0 o s a3 a4 a5 t u v a9 b c d e;(repeat first|simp(disch:=try exact dis1) only[evD,Nat.reduceBEq,Nat.reduceAdd,Nat.reduceLeDiff,a0,o,s,a3,a4,a5,t,u,v,a9,b,c,d,e]|((with_reducible apply Im.i);intro _)|((with_reducible apply Im.a);omega));exact Im.r):p:=h a0 o s a3 a4 a5 t u v a9 b c d e k
theorem m9A{a:Type}{l m:List a}:(l++m).length=l.length+m.length:=by simp
theorem m9M{a b:Type}{f:a->b}{l:List a}:(l.map f).length=l.length:=by simp
theorem m9O{a:Type}:([]:List a).length=0:=rfl
theorem m9R{a:Type}{n:Nat}{x:a}:(Wh n x).length=n:=by simp
theorem m9S{a:Type}{l:List a}{i:Nat}{x:a}:(l.set i x).length=l.length:=by simp
theorem m9C{a b:Type}{f:a->b}{x:a}{l:List a}:(x::l).map f=f x::l.map f:=rfl
theorem m9N{a b:Type}{f:a->b}:([]:List a).map f=[]:=rfl
theorem gmp{a:Type}{l:List a}{i:Nat}(h:i<l.length):∀(f:a->List AV)(d:List AV),(l.map f).getD i d=f (l[i]'h):=λf d=>by simp[List.getD,h]
theorem fin1{p:Prop}(h:p:=by(repeat' with_reducible apply And.intro)<;>first|omega|exact zs3 rfl rfl (by omega)|exact zbv rfl rfl (by omega)|exact zqb rfl rfl (by omega)|exact znd (by repeat' first|exact bytes_flat|exact flat1|refine flat_app ?_ ?_)|exact zy3 (λ_=>rfl)|exact zsg (c:=cN) (λ_=>rfl) rfl|exact zeH (λ_=>rfl) (by decide) ⟨rfl,rfl⟩ trivial|exact zeH (λ_=>rfl) (by decide) (λ_ _=>⟨rfl,rfl⟩) trivial|(simp;done)|fail):p:=h
theorem Gin1_0{p:Prop}(h:p:=by(try simp only[evWB,Nat.reduceBEq,Nat.reduceAdd,Nat.reduceSub,Nat.reduceLeDiff,Nat.reduceLT,implies_true])<;>exact fin1):p:=h
theorem Gin1_1{b p:Prop}(a0:b)(h:b->p:=by intro a0;(try simp only[evWB,Nat.reduceBEq,Nat.reduceAdd,Nat.reduceSub,Nat.reduceLeDiff,Nat.reduceLT,implies_true,a0])<;>exact fin1):p:=h a0
theorem Gin1_2{c d p:Prop}(a0:c)(b:d)(h:c->d->p:=by intro a0 b;(try simp only[evWB,Nat.reduceBEq,Nat.reduceAdd,Nat.reduceSub,Nat.reduceLeDiff,Nat.reduceLT,implies_true,a0,b])<;>exact fin1):p:=h a0 b
theorem fin2{p:Prop}(h:p:=by((repeat' with_reducible apply And.intro)<;>first|omega|rfl|exact zq rfl|(refine RowV.of_flat ?_;(repeat' (first|exact zK (λ_=>rfl)|exact zK (λ_=>zc5)|exact zK (λ_=>zu)|exact zT zc5|exact zT zu|exact zsm rfl|exact znS|exact zT rfl|refine zpI ?_ ?_|refine zcx rfl ?_|refine zcx zc5 ?_|refine zcx zu ?_));done)|((repeat' (first|exact zK (λ_=>rfl)|exact zK (λ_=>zc5)|exact zK (λ_=>zu)|exact zT zc5|exact zT zu|exact zsm rfl|exact znS|exact zT rfl|refine zpI ?_ ?_|refine zcx rfl ?_|refine zcx zc5 ?_|refine zcx zu ?_));done)|exact zs3 rfl rfl (by omega)|exact zbv rfl rfl (by omega)|exact zqb rfl rfl (by omega)|exact zy3 (λ_=>rfl)|exact zeH (λ_=>rfl) (by decide) ⟨rfl,rfl⟩ trivial|exact zeH (λ_=>rfl) (by decide) (λ_ _=>⟨rfl,rfl⟩) trivial|(simp;done)|fail)):p:=h
theorem Gin2_1{b p:Prop}(a0:b)(h:b->p:=by intro a0;(try simp only[evWB,Nat.reduceBEq,Nat.reduceAdd,Nat.reduceSub,Nat.reduceLeDiff,Nat.reduceLT,implies_true,a0])<;>exact fin2):p:=h a0
theorem Gin2_2{c d p:Prop}(a0:c)(b:d)(h:c->d->p:=by intro a0 b;(try simp only[evWB,Nat.reduceBEq,Nat.reduceAdd,Nat.reduceSub,Nat.reduceLeDiff,Nat.reduceLT,implies_true,a0,b])<;>exact fin2):p:=h a0 b
def loadS(n:Nat)(p:AV)(H:AH):Bool :=
 match p with
 |
  .ptr r q g i f=>match H.get r q with
  |some (.row d b c)=>Wa g c&&(Wd i b.length&&Wc (f+n) d)
  |_=>false
 |.iptr m _=>Wc n m
 |_=>false
def storeS(n:Nat)(p v:AV)(H:AH):Bool :=
 match p with
 |
  .ptr r q g i f=>match H.get r q with
  |some (.row d b c)=>Wa g c&&(Wd i b.length&&(Wc (f+n) d&&(v.solid&&Wa v.cells.length n)))
  |_=>false
 |_=>false
def idxS(c:Nat)(x i:AV)(H:AH):Bool :=
 match x,i with
 |.sl b n _,.int _ k=>Wa b c&&(decide (0<=k)&&decide (k<n))
 |
  .own r q g _ n,.int _ k=>match H.get r q with
  |some (.row b _ d)=>Wa b c&&(Wa g d&&(decide (0<=k)&&decide (k<n)))
  |_=>false
 |_,_=>false
def zJn(off n:Nat)(x:AV):Bool :=
 match x with
 |.ptr ..=>true
 |.iptr m _=>Wc (off+n) m
 |_=>false
def fldS(off n:Nat)(x:AV):Bool :=
 match x with
 |.agg b=>Wc (off+n) b.length
 |_=>false
def lenS(x:AV):Bool :=
 match x with
 |.sl .. |.own .. |.nilsl |.cut=>true
 |_=>false
def slenS(x:AV):Bool :=
 match x with
 |.str _=>true
 |_=>false
def binS(op:BinOp)(x y:AV):Bool :=
 match x,y with
 |
  .int k _,.int k' b=>match op with
  |.quo |.rem=>decide (k=k')&&decide (b≠0)
  |.shl |.shr=>decide (0<=b)
  |_=>decide (k=k')
 |_,_=>false
def eqbS(x y:AV):Bool :=
 match x,y with
 |.bool _,.bool _=>true
 |_,_=>false
def unS(op:UnOp)(x:AV):Bool :=
 match op,x with
 |.not,.bool _=>true
 |.neg,.int _ _=>true
 |_,_=>false
def convS(x:AV):Bool :=
 match x with
 |.int _ _=>true
 |_=>false
def pickS(c:AV):Bool :=
 match c with
 |.bool _=>true
 |_=>false
def fillS(n:Nat):List (Nat×Nat×AV)->Bool
 |[]=>true
 |(off,size,v)::r=>(v.solid&&(Wa v.cells.length size&&Wc (off+size) n))&&fillS n r
def setS(n b:Nat):List (Nat×AV)->Bool
 |[]=>true
 |(i,v)::r=>(v.solid&&(Wa v.cells.length b&&Wd i n))&&setS n b r
def mkslS(bytes:Nat)(l c:AV):Bool :=
 match l,c with
 |.int k n,.int b m=>decide (k=.i64)&&(decide (b=.i64)&&(decide (0<=n)&&(decide (n<=m)&&(decide (bytes*m<=140737488355328)&&Wd 0 bytes))))
 |_,_=>false
def loI:Option AV->Option Int
 |none=>some 0
 |some (.int _ k)=>some k
 |_=>none
def hiI(n:Nat):Option AV->Option Int
 |none=>some n
 |some (.int _ k)=>some k
 |_=>none
def sliceS(h:Nat)(x:AV)(e d:Option AV)(H:AH):Bool :=
 match x with
 |
  .sl c n _=>match loI e,hiI n d with
  |some a,some b=>Wa c h&&(decide (0<=a)&&(decide (a<=b)&&decide (b<=n)))
  |_,_=>false
 |
  .own r q g _ n=>match H.get r q,loI e,hiI n d with
  |some (.row c _ j),some a,some b=>Wa c h&&(Wa g j&&(decide (0<=a)&&(decide (a<=b)&&decide (b<=n))))
  |_,_,_=>false
 |
  .nilsl=>match loI e,hiI 0 d with
  |some a,some b=>decide (a=0)&&decide (b=0)
  |_,_=>false
 |_=>false
def cutS(x:AV):Bool :=
 match x with
 |.sl _ _ _ |.own _ _ _ _ _ |.nilsl |.cut=>true
 |_=>false
def zMM(H:AH):AV->Bool
 |
  .own r q _ off n=>match H.get r q with
  |some (.row _ b _)=>Wc (off+n) b.length
  |_=>false
 |_=>true
def zLY(d bytes:Nat)(x y:AV)(H:AH):Bool :=
 match zec d y H,lenV y with
 |
  some _,some m=>match x with
  |
   .own r q g off n=>match H.get r q with
   |some (.row c b e)=>Wa c d&&(Wa g e&&(Wc (off+n) b.length&&(zMM H y&&Wc ((n+m)*bytes) 140737488355328)))
   |_=>false
  |.nilsl |.cut=>zMM H y&&Wc (m*bytes) 140737488355328
  |_=>false
 |_,_=>false
def clearS(e:Nat)(x:AV)(H:AH):Bool :=
 match x with
 |
  .own r q g off n=>match H.get r q with
  |some (.row c b d)=>Wa c e&&(Wa g d&&Wc (off+n) b.length)
  |_=>false
 |_=>false
def extS(i:Nat)(x:AV):Bool :=
 match x with
 |.tup b=>Wd i b.length
 |_=>false
def keyS:Option IntKind->AV->Bool
 |some q,.int k _=>decide (q=k)
 |none,.str _=>true
 |_,_=>false
def xopS:XOp->List AV->AH->Bool
 |
  .mark,[.own r q g _ n],H=>match H.get r q with
  |some (.row d _ o)=>Wa d 1&&(Wa g o&&Wd 0 n)
  |_=>false
 |.nilck,[.ptr ..],_=>true
 |.nilck,[.iptr ..],_=>true
 |.seq _,[.str _,.str _],_=>true
 |.sidx,[.str s,.int _ k],_=>decide (0<=k)&&decide (k<s.size)
 |
  .b2s,[x],H=>match zec 1 x H with
  |some h=>(ziv h).isSome&&(zMM H x&&(lenV x).isSome)
  |none=>false
 |.s2b,[.str _],_=>true
 |
  .sapp,[.own r q g off n,.str s],H=>match H.get r q with
  |some (.row e h o)=>Wa e 1&&(Wa g o&&(Wc (off+n) h.length&&Wc (n+s.size) 140737488355328))
  |_=>false
 |.sapp,[.nilsl,.str s],_=>Wc s.size 140737488355328
 |.sapp,[.cut,.str s],_=>Wc s.size 140737488355328
 |.min,[.int k _,.int p _],_=>decide (k=p)
 |.max,[.int k _,.int p _],_=>decide (k=p)
 |.eqs _ u,[.agg a,.agg b],_=>(z6 u a b).isSome
 |.sl3 d,[.sl e n _,.int _ b,.int _ c],_=>Wa e d&&(decide (0<=b)&&(decide (b<=c)&&decide (c<=n)))
 |
  .sl3 d,[.own r q g _ n,.int _ b,.int _ c],H=>match H.get r q with
  |some (.row e _ o)=>Wa e d&&(Wa g o&&(decide (0<=b)&&(decide (b<=c)&&decide (c<=n))))
  |_=>false
 |.sl3 _,[.nilsl,.int _ b,.int _ c],_=>decide (b=0)&&decide (c=0)
 |.capn,[.nilsl],_=>true
 |.apz d bytes _,[.nilsl,.int _ n],_=>decide (0<=n)&&(decide (n*bytes<=140737488355328)&&(Wd 0 d&&Wd 0 bytes))
 |.mkmap,[],_=>true
 |.mlook str _ _,[.nilmp,k],_=>keyS str k
 |
  .mlook str _ _,[.mp r q,k],H=>match H.get r q with
  |some (.row d (_::j) g)=>(zdj k j 0).isSome&&(Wa d 3&&(Wa g 0&&keyS str k))
  |_=>false
 |
  .mset str,[.mp r q,k,_],H=>match H.get r q with
  |some (.row d ([.int .i64 c,_,_]::j) g)=>(zdj k j 0).isSome&&(Wa d 3&&(Wa g 0&&(keyS str k&&decide (c<9223372036854775807))))
  |_=>false
 |.mlen,[.nilmp],_=>true
 |
  .mlen,[.mp r q],H=>match H.get r q with
  |some (.row d (_::j) g)=>Wa d 3&&(Wa g 0&&Wc j.length big)
  |_=>false
 |.mdel str,[.nilmp,k],_=>keyS str k
 |
  .mdel str,[.mp r q,k],H=>match H.get r q with
  |some (.row d (_::j) g)=>(zdj k j 0).isSome&&(Wa d 3&&(Wa g 0&&keyS str k))
  |_=>false
 |.mrange,[.nilmp],_=>true
 |
  .mrange,[.mp r q],H=>match H.get r q with
  |some (.row d ([.int .i64 _,_,_]::_) g)=>Wa d 3&&Wa g 0
  |_=>false
 |.aidx len d _,[.agg t,.int _ k],_=>decide (0<=k)&&(decide (k<len)&&Wc (len*d) t.length)
 |.aaddr len _,[.ptr ..,.int _ k],_=>decide (0<=k)&&decide (k<len)
 |.aaddr len d,[.iptr m _,.int _ k],_=>decide (0<=k)&&(decide (k<len)&&Wc (len*d) m)
 |_,_,_=>false
def sideB:AOp->(Nat->AV)->AH->Bool
 |.mov _,_,_=>true
 |.mknil _,_,_=>true
 |.pick c _ _,K,_=>pickS (ev K c)
 |.load _ n p,K,H=>loadS n (ev K p) H
 |.store n p v,K,H=>storeS n (ev K p) (ev K v) H
 |.idx b x i,K,H=>idxS b (ev K x) (ev K i) H
 |.fldaddr off n x,K,_=>zJn off n (ev K x)
 |.fld off n _ x,K,_=>fldS off n (ev K x)
 |.len x,K,_=>lenS (ev K x)
 |.slen x,K,_=>slenS (ev K x)
 |.bin op x y,K,_=>binS op (ev K x) (ev K y)
 |.eqb _ x y,K,_=>eqbS (ev K x) (ev K y)
 |.un op x,K,_=>unS op (ev K x)
 |.conv _ x,K,_=>convS (ev K x)
 |.build zero parts,K,_=>fillS zero.length (zf9 K parts)
 |.buildSl b len _ parts,K,_=>setS len b (zm2 K parts)
 |.box x,K,_=>(ev K x).solid
 |.rbox x,K,_=>(ev K x).solid&&zR (ev K x).cells
 |.rbuildSl b len z parts,K,_=>setS len b (zm2 K parts)&&(zgY (Wh len z) (zm2 K parts)).all zR
 |.alloc _,_,_=>true
 |.mksl _ bytes _ l c,K,_=>mkslS bytes (ev K l) (ev K c)
 |.slice b x e d,K,H=>sliceS b (ev K x) (evO K e) (evO K d) H
 |.cut x,K,_=>cutS (ev K x)
 |.mkfn _ _,_,_=>true
 |.append b bytes x y,K,H=>zLY b bytes (ev K x) (ev K y) H
 |.clear b _ x,K,H=>clearS b (ev K x) H
 |.ext i x,K,_=>extS i (ev K x)
 |.xop x args,K,H=>xopS x (evs K args) H
 |_,_,_=>false
theorem bleT{a b}(h:Wc a b=true):a<=b:=Wm h
def frzV:Nat->AH->AV->AV
 |0,_,_=>.undef
 |
  d+1,H,v=>match v with
  |
   .own r q g off n=>match H.get r q with
   |some (.row c b e)=>bif Wa g e&&(Wc n big&&Wc (off+n) b.length)then .sl c n (λi j=>frzV d H ((b.getD (off+i) []).getD j .undef))else .undef
   |_=>.undef
  |
   .ptr r q g i o=>match H.get r q with
   |some (.row c b e)=>bif Wa g e&&(Wd i b.length&&Wc o c)then .iptr (c-o) (λj=>frzV d H ((b.getD i []).getD (o+j) .undef))else .undef
   |_=>.undef
  |.agg l=>.agg (l.map (frzV d H))
  |.tup l=>.tup (l.map (frzV d H))
  |.fn f l=>.fn f (l.map (frzV d H))
  |.mp _ _=>.undef
  |.it _=>.undef
  |.nilmp=>.undef
  |v=>v
abbrev zIi:=FuncId->List AV->AH->Nat->Option (AV×AH×Nat)
def quietX(call:zIi)(f:FuncId)(args:List AV)(H:AH):Option AV :=
 bif args.all AV.flat then
  match call f args [] 0 with
  |some (v,b,_)=>some (frzV 9 b v)
  |none=>none
 else
  match call f (args.map (frzV 9 H)) [] 0 with
  |some (v,b,_)=>bif (frzV 9 b v).scal then some (frzV 9 b v)else none
  |none=>none
def bodyX(P:Program)(call:zIi)(op:AOp)(ρ:Nat->AV)(H:AH)(c:Nat):Option (AV×AH×Nat) :=
 match op with
 |.call f args=>call f (evs ρ args) H c
 |
  .callq f args=>match quietX call f (evs ρ args) H with
  |some v=>some (v,H,c)
  |none=>none
 |
  .isnil neg p x=>match nilB p (ev ρ x)with
  |some (some b)=>some (.bool (b != neg),H,c)
  |_=>none
 |.mnext _=>none
 |.append2 ..=>none
 |
  .callv x args=>match ev ρ x with
  |.fn (.func f) d=>bif zhI P f then call f (evs ρ args++d) H c else none
  |_=>none
 |op=>bif sideB op ρ H then some ((aop op ρ H c).v,(aop op ρ H c).H,(aop op ρ H c).nx)else none
abbrev Sg:=Nat->Option Nat
def Sg.two(σ:Sg):Nat->Nat->Option (Nat×Nat×Nat):=λc b=>match σ c with
 |some r=>some (r,b,0)
 |none=>none
def isS(σ:Sg)(b r:Nat):Bool:=match σ b with
 |some x=>Wa x r
 |none=>false
def okB(σ:Sg):Nat->AV->Bool
 |0,_=>false
 |
  d+1,v=>match v with
  |.own r _ _ _ _=>isS σ r r
  |.ptr r _ _ _ _=>isS σ r r
  |.mp r _=>isS σ r r
  |.it r=>isS σ r r
  |.agg l=>l.all (okB σ d)
  |.tup l=>l.all (okB σ d)
  |.fn _ l=>l.all (okB σ d)
  |_=>true
def zy2{α β:Type}(p:α->β->Bool):List α->List β->Bool
 |[],[]=>true
 |a::l,b::m=>p a b&&zy2 p l m
 |_,_=>false
def zJ9:IntKind->Nat
 |.i8=>0 |.i16=>1 |.i32=>2 |.i64=>3 |.u8=>4 |.u16=>5 |.u32=>6 |.u64=>7
def beqI:Int->Int->Bool
 |.ofNat a,.ofNat b=>Wa a b
 |.negSucc a,.negSucc b=>Wa a b
 |_,_=>false
def beqU:List UInt8->List UInt8->Bool
 |[],[]=>true
 |a::l,b::m=>Wa a.toNat b.toNat&&beqU l m
 |_,_=>false
def beqS(s t:ByteArray):Bool:=beqU s.data.toList t.data.toList
def fnN:Fn->Option Nat
 |.func f=>some f
 |_=>none
def vw0B:Nat->AV->AV->Bool
 |0,_,_=>false
 |
  d+1,a,b=>match a,b with
  |_,.undef=>true
  |.int k n,.int u e=>Wa (zJ9 k) (zJ9 u)&&beqI n e
  |.bool x,.bool y=>x == y
  |.str s,.str t=>beqS s t
  |.nilp,.nilp=>true
  |.nilsl,.nilsl=>true
  |.nilfn,.nilfn=>true
  |.nilmp,.nilmp=>true
  |.cut,.cut=>true
  |.sl o n f,.sl h e q=>Wa o h&&(Wa n e&&allB n λi=>allB o λj=>vw0B d (f i j) (q i j))
  |.iptr n c,.iptr e p=>Wa n e&&allB n λj=>vw0B d (c j) (p j)
  |.agg l,.agg m=>zy2 (vw0B d) l m
  |.tup l,.tup m=>zy2 (vw0B d) l m
  |.fn f l,.fn g m=>(match fnN f,fnN g with|some x,some y=>Wa x y|_,_=>false)&&zy2 (vw0B d) l m
  |_,_=>false
def vwB(σ:Sg):Nat->AV->AV->Bool
 |0,_,_=>false
 |
  d+1,a,b=>match a,b with
  |_,.undef=>true
  |.int k n,.int B e=>Wa (zJ9 k) (zJ9 B)&&beqI n e
  |.bool x,.bool y=>x == y
  |.str s,.str t=>beqS s t
  |.nilp,.nilp=>true
  |.nilsl,.nilsl=>true
  |.nilfn,.nilfn=>true
  |.nilmp,.nilmp=>true
  |.cut,.cut=>true
  |.own r q g o n,.own h j p u e=>isS σ h r&&(Wa q j&&(Wa g p&&(Wa o u&&Wa n e)))
  |.ptr r q g o n,.ptr h j p u e=>isS σ h r&&(Wa q j&&(Wa g p&&(Wa o u&&Wa n e)))
  |.mp r q,.mp h j=>isS σ h r&&Wa q j
  |.it r,.it h=>isS σ h r
  |.sl C n f,.sl v e A=>vw0B (d+1) (.sl C n f) (.sl v e A)
  |.iptr n c,.iptr e w=>vw0B (d+1) (.iptr n c) (.iptr e w)
  |.agg l,.agg m=>zy2 (vwB σ d) l m
  |.tup l,.tup m=>zy2 (vwB σ d) l m
  |.fn f l,.fn g m=>(match fnN f,fnN g with|some x,some y=>Wa x y|_,_=>false)&&zy2 (vwB σ d) l m
  |_,_=>false
def sgR(d c top e:Nat):Sg:=λb=>
 bif Wc d b&&Wd b (d+c)then some (b-d+top)else bif Wd b top&&Wd b e then some b else none
def rowB(σ:Sg):List AV->List AV->Bool:=zy2 (vwB σ 30)
def rowsB(σ:Sg)(b:Nat)(H:AH):AH->Bool
 |[]=>true
 |(e,o)::t=>(Wd e b&&(match o with
   |
    .row sz els2 g2=>match σ e with
    |
     some r=>match H.look r with
     |some (.row d c g)=>Wa sz d&&(Wa g g2&&zy2 (rowB σ) c els2)
     |_=>false
    |none=>false
   |_=>false))&&rowsB σ b H t
section
variable {P:Program}
def valX(P:Program)(call:zIi)(o:AOper)(ρ:Nat->AV)(H:AH)(b:Nat):Option (AV×AH×Nat) :=
 match o.guard with
 |none=>bodyX P call o.op ρ H b
 |
  some (t,want)=>match grd want (ρ t)with
  |some true=>bodyX P call o.op ρ H b
  |some false=>some (.tup [],H,b)
  |none=>none
abbrev STab:=List (List Nat×AH)
def zMy:STab->List Nat->AH
 |[],_=>[]
 |(S,H)::t,b=>bif beqL S b then H else zMy t b
def forbS(ops:List AOper)(A:List (List Nat))(i:Nat):List Nat :=
 (Wi ops.length).filterMap λj=>bif Wa j i||memN (A.getD j []) i then(ops.getD j default).dst else none
def seenK(ops:List AOper)(A:List (List Nat))(b c:Kn)(i:Nat):Kn:=zaL c ((forbS ops A i).map λt=>(t,b.get t))
def idS:Sg:=λr=>some r
def dstB(σ:Sg)(b:Kn):Option Nat->AV->Bool
 |none,_=>true
 |some d,v=>vwB σ 30 v (b.get d)
def chkE(P:Program)(call:zIi)(ops:List AOper)(A:List (List Nat))(d c:Kn)(b:List (Nat×Nat))(g top:Nat)(tab:STab)(e:Nat×List Nat×List Nat):Bool :=
 match valX P call (ops.getD e.1 default) (seenK ops A d c e.1).get (zMy tab e.2.1) top with
 |
  some (v,H',_)=>
  bif (ops.getD e.1 default).fixed then dstB idS c (ops.getD e.1 default).dst v
  else Wc g (b.getD e.1 (0,0)).1&&(Wc ((b.getD e.1 (0,0)).1+(b.getD e.1 (0,0)).2) top &&
   (rowsB (sgR (b.getD e.1 (0,0)).1 (b.getD e.1 (0,0)).2 top top) top H' (zMy tab e.2.2) &&
   (dstB (sgR (b.getD e.1 (0,0)).1 (b.getD e.1 (0,0)).2 top top) c (ops.getD e.1 default).dst v &&
   ((c.all λp=>memN (forbS ops A e.1) p.1||okB (sgR (b.getD e.1 (0,0)).1 (b.getD e.1 (0,0)).2 top top) 30 p.2) &&
   d.all λp=>okB (sgR (b.getD e.1 (0,0)).1 (b.getD e.1 (0,0)).2 top top) 30 p.2))))
 |none=>false
structure DR where
 Kf:Kn
 H:AH
 top:Nat
structure DOk(ops:List AOper)(deps:List (List Nat))(Ls:List Nat)(A:List (List Nat))(St:List (List Nat))(plan:Plan)(ks:List Nat):Prop where
 low:∀(i:Nat),i<ops.length->∀j∈deps.getD i [],j<i
 clo:∀(i:Nat),i<ops.length->∀j∈A.getD i [],j∈deps.getD i []\/∃d∈deps.getD i [],j∈A.getD d []
 one:∀(i j d:Nat),i<ops.length->j<ops.length->(ops.getD i default).dst=some d->(ops.getD j default).dst=some d->i=j
 keys:∀k∈ks,∃j,j<ops.length/\(ops.getD j default).dst=some k
 look:∀(i:Nat),i<ops.length->∀t∈(ops.getD i default).looks,(∃j∈A.getD i [],(ops.getD j default).dst=some t)\/∀j,j<ops.length->(ops.getD j default).dst=some t->j=i\/i∈A.getD j []
 lin:∀i∈Ls,i<ops.length
 st0:[]∈St
 stc:∀S∈St,∀i∈Ls,zhX Ls A i S=true->zr2 Ls i S∈St
 plan:∀(i:Nat),i<ops.length->((ops.getD i default).fixed=true/\(ops.getD i default).sees=false/\i∉Ls/\anyP plan i=true) \/
  (i∉Ls/\∀S∈St,zhX Ls A i S=true->memP plan i S S=true)\/(i∈Ls/\∀S∈St,zhX Ls A i S=true->memP plan i S (zr2 Ls i S)=true)
structure DX(P:Program)(call:zIi)(ops:List AOper)(deps:List (List Nat))(Ls:List Nat)(A:List (List Nat))(St:List (List Nat))(plan:Plan)(ks:List Nat)(K0 Kf:Kn)(rs:List (Nat×Nat))(nx top:Nat)(tab:STab):Prop where
 ok:DOk ops deps Ls A St plan ks
 chk:∀e∈plan,chkE P call ops A K0 Kf rs nx top tab e=true
 lsF:∀i,i∈Ls->(ops.getD i default).fixed=false
 lsT:∀i,i<ops.length->i∉Ls->(ops.getD i default).fixed=true
end
end Go.Ab
