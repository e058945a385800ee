/-
  Part 5 of the proof: how the calls of this program run, over values instead of memory, and what each function computes.
-/
import Derived.LoopN
import Derived.Test.YtmlhipilbnjhiaaGreatQd
set_option maxRecDepth 100000
set_option linter.unusedVariables false
set_option linter.unusedSimpArgs false
set_option linter.unnecessarySimpa false
set_option linter.unusedSectionVars false
open Go.Ab.Kn renaming get->Xa,get_set->Xb,drop->Xd
open Go.Ab.Inj renaming upto->Xc
open Classical renaming byContradiction->Xe
open Nat renaming beq→Wa,blt→Wd,ble→We,testBit→Wh,le_of_ble_eq_true→Wq,strongRecOn→Wy,shiftLeft→WD,lt_of_lt_of_le→WI,le_of_not_lt→WO
open Bool renaming and_eq_true→Wc,or_eq_true→Wm,or_eq_true_iff→Wr,not_eq_true'→WE,false_or→WG
open List renaming all_eq_true→Wf,getD_eq_getElem?_getD→Wg,mem_filter→Wi,replicate→Wj,range→Wk,mem_range→Wl,getElem?_eq_getElem→Wn,mem_cons_of_mem→Wo,mem_map→Wp,getElem?_map→Wt,getElem?_replicate→Wu,any_eq_true→Ww,mem_cons→Wx,getElem?_eq_none→Wz,filter_congr→WA,mem_of_getElem?→WC,filter_eq_nil_iff→WF,mem_iff_getElem→WH,mem_filterMap→WJ,length_map→WK,replicate_succ→WL,filter_eq_self→WM,length_cons→WN
open Option.some renaming injEq→Ws
open Option renaming isSome_iff_exists→Wv,map_eq_some_iff→WB
namespace Go.Ab
open Go.RowKit
section
variable {P:Program}
def KEq(K b:Kn):Prop:=∀i,K.get i=b.get i
theorem Kn.get_drop'(K:Kn)(l:List Nat)(x:Nat):(K.drop l).get x=bif memN l x then .undef else K.get x:=by
 induction K with
 |nil=>cases memN l x<;>rfl
 |cons p t ih=>
  obtain⟨j,u⟩:=p;simp only[Xd]
  cases b:memN l j with
  |true=>
   simp only[cond_true,ih,Xa]
   cases c:Wa j x with
   |true=>rw[zm c]at b;rw[b];rfl
   |false=>rfl
  |false=>
   simp only[cond_false,Xa,ih]
   cases c:Wa j x with
   |true=>rw[zm c]at b;rw[b];rfl
   |false=>rfl
theorem KEq.fn{K K'}(h:KEq K K'):K.get=K'.get:=funext h
theorem KEq.rfl'(K):KEq K K:=λ_=>rfl
theorem KEq.set{K K'}(h:KEq K K')(d)(v):KEq (K.set d v) (K'.set d v):=λi=>by rw[Xb,Xb,h i]
theorem KEq.setO{K K'}(h:KEq K K')(d)(v):KEq (Go.Ab.setO K d v) (Go.Ab.setO K' d v):=by
 cases d with
 |none=>exact h
 |some d=>exact h.set d v
theorem KEq.drop{K K'}(h:KEq K K')(l):KEq (K.drop l) (K'.drop l):=λi=>by rw[Kn.get_drop',Kn.get_drop',h i]
theorem zAF{fx}{o}{K c}{H}{nx}{k k'}(q:∀K c H nx,KEq K c->k K H nx->k' c H nx)(j:KEq K c)(h:ExK P fx o K H nx k):ExK P fx o c H nx k':=by
 have key:zcK P fx o.op K.get H nx (λv m d=>k (setO K o.dst v) m d)->zcK P fx o.op c.get H nx (λv m d=>k' (setO c o.dst v) m d):=λh=>by rw[<-j.fn];exact zcV (λv H nx h=>q _ _ _ _ (j.setO _ _) h) h
 unfold ExK at *
 cases n:o.guard with
 |none=>rw[n]at h;exact key h
 |some p=>
  obtain⟨t,g⟩:=p;rw[n]at h;simp only at h⊢;rw[<-j t]
  cases s:grd g (K.get t)with
  |some b=>rw[s]at h;exact⟨λe=>key (h.1 e),λe=>q _ _ _ _ (j.setO _ _) (h.2 e)⟩
  |none=>rw[s]at h;exact h
def QLe(Q c:QT):Prop:=∀e K b H nx,KEq K b->Q e K H nx->c e b H nx
def QExt(Q:QT):Prop:=QLe Q Q
theorem zAM{Q Q'}(d:QLe Q Q'){drop}:∀{e:List AOper}{K c:Kn}{H:AH}{nx:Nat},KEq K c->aops P e drop Q K H nx->aops P e drop Q' c H nx
 |[],_,_,_,_,b,h=>d _ _ _ _ _ (b.drop _) h
 |_::_,_,_,_,_,b,h=>zAF (λ_ _ _ _ b h=>zAM d b h) b h
theorem zsj{Q Q'}(c:QLe Q Q'){drop}:∀{t:DTree}{K d:Kn}{H:AH}{nx:Nat},KEq K d->awpT P t drop Q K H nx->awpT P t drop Q' d H nx
 |.done,_,_,_,_,b,h=>c _ _ _ _ _ (b.drop _) h
 |.stop,_,_,_,_,_,_=>trivial
 |.step _ _,_,_,_,_,b,h=>zAF (λ_ _ _ _ b h=>zsj c b h) b h
 |.alt _ _ _,_,_,_,_,b,h=>⟨zAF (λ_ _ _ _ b h=>zsj c b h) b h.1,zsj c b h.2⟩
theorem Ent.ext{B}{K K' K2}{H H2}{nx nx2}(b:KEq K K')(h:Ent B K H nx K2 H2 nx2):Ent B K' H nx K2 H2 nx2:=⟨h.1,λw L ι tmps rel c=>h.2 w L ι tmps rel (by rw[b.fn];exact c)⟩
theorem zJX{B}:∀{c:ACode}{Q m:QT}{K k:Kn}{H:AH}{nx:Nat},QLe Q m->KEq K k->awp P B c Q K H nx->awp P B c m k H nx:=by
 intro c
 induction c with
 |skip=>intro Q m K k H nx j d h;exact j _ _ _ _ _ d h
 |region W drop=>intro Q m K k H nx j d h;exact zAM j d h
 |draw t drop=>intro Q m K k H nx j d h;exact zsj j d h
 |seq a b q u=>
  intro Q m K k H nx j d h;refine q (λe K k H nx d h=>?_) d h
  cases e with
  |normal=>exact @u Q m K k H nx j d h
  |exit id=>exact j _ _ _ _ _ d h
  |ret=>exact j _ _ _ _ _ d h
  |goto l=>exact j _ _ _ _ _ d h
 |cond c a b q u=>
  intro Q m K k H nx j d h;unfold awp at h⊢;have e:ev k.get c=ev K.get c:=by rw[d.fn]
  rw[e];cases O:ev K.get c<;>rw[O]at h<;>first|exact h|skip
  exact⟨λe=>q j d (h.1 e),λe=>u j d (h.2 e)⟩
 |block id c A=>
  intro Q m K k H nx j d h;refine A (λe K k H nx d h=>?_) d h
  cases e with
  |normal=>exact j _ _ _ _ _ d h
  |exit id'=>simp only at h⊢;cases L:Wa id' id<;>rw[L]at h<;>exact j _ _ _ _ _ d h
  |ret=>exact j _ _ _ _ _ d h
  |goto l=>exact j _ _ _ _ _ d h
 |loop c A=>
  intro Q m K k H nx j d h;obtain⟨α,S,N,v,μ,⟨a,J,V⟩,L⟩:=h;refine⟨α,S,N,v,μ,⟨a,J,V.ext d⟩,λa J z=>A (λe K k H nx d h=>?_) (KEq.rfl' _) (L a J z)⟩
  cases e with
  |normal=>obtain⟨w,o,p,C⟩:=h;exact⟨w,o,p,C.ext d⟩
  |exit id=>exact j _ _ _ _ _ d h
  |ret=>exact j _ _ _ _ _ d h
  |goto l=>exact j _ _ _ _ _ d h
 |exit id=>intro Q m K k H nx j d h;exact j _ _ _ _ _ d h
 |ret=>intro Q m K k H nx j d h;exact j _ _ _ _ _ d h
 |mark n c A=>intro Q m K k H nx j d h z;obtain⟨U,T,nx2,o,p⟩:=h (λi=>by rw[d i];exact z i);exact⟨U,T,nx2,o.ext d,A j (KEq.rfl' _) p⟩
 |join a b q u=>
  intro Q m K k H nx j d h;obtain⟨α,S,N,v,o,p⟩:=h;refine⟨α,S,N,v,q (λe K k H nx d h=>?_) d o,λx D z=>u j (KEq.rfl' _) (p x D z)⟩
  cases e with
  |normal=>obtain⟨w,o,p⟩:=h;exact⟨w,o,p.ext d⟩
  |exit id=>exact j _ _ _ _ _ d h
  |ret=>exact j _ _ _ _ _ d h
  |goto l=>exact j _ _ _ _ _ d h
 |scope c A=>
  intro Q m K k H nx j d h;refine A (λe K k H nx d h=>?_) d h
  cases e with
  |goto l=>exact h
  |normal=>exact j _ _ _ _ _ d h
  |exit id=>exact j _ _ _ _ _ d h
  |ret=>exact j _ _ _ _ _ d h
 |range g ps a b q u=>intro Q m K k H nx j d h;obtain⟨σ,f,caps,next,ok,s0,α,K1,S,N,v,invx,nc,Hc,R,O,hgood,hcaps,hit,hok,hlen,hlow,⟨a0,y,M⟩,hround,hdone,D⟩:=h;refine⟨σ,f,caps,next,ok,s0,α,K1,S,N,v,invx,nc,Hc,R,?_,hgood,hcaps,hit,hok,hlen,hlow,⟨a0,y,M.ext d⟩,hround,λa s F o p C=>j _ _ _ _ _ (KEq.rfl' _) (hdone a s F o p C),λa e F o p=>j _ _ _ _ _ (KEq.rfl' _) (D a e F o p)⟩;rw[<-d.fn];exact O
 |label l=>intro Q m K k H nx j d h;exact j _ _ _ _ _ d h
 |goto l=>intro Q m K k H nx j d h;exact j _ _ _ _ _ d h
 |jump l a b q u=>
  intro Q m K k H nx j d h;obtain⟨α,S,N,v,μ,o,p⟩:=h;refine⟨α,S,N,v,μ,q (λe K k H nx d h=>?_) d o,λx D z=>u (λe K k H nx d h=>?_) (KEq.rfl' _) (p x D z)⟩
  .cases e with
   |goto l=>obtain⟨I,w,o,p⟩:=h;exact⟨I,w,o,p.ext d⟩
   |normal=>exact j _ _ _ _ _ d h
   |exit id=>exact j _ _ _ _ _ d h
   |ret=>exact j _ _ _ _ _ d h
  .cases e with
   |goto l=>obtain⟨I,w,o,p,C⟩:=h;exact⟨I,w,o,p,C.ext d⟩
   |normal=>exact j _ _ _ _ _ d h
   |exit id=>exact j _ _ _ _ _ d h
   |ret=>exact j _ _ _ _ _ d h
theorem QExt.seq{B}{b}{Q}(h:QExt Q):QExt (seqQ P B b Q):=by
 intro e K g H nx d c
 cases e with
 |normal=>exact zJX h d c
 |exit id=>exact h _ _ _ _ _ d c
 |ret=>exact h _ _ _ _ _ d c
 |goto l=>exact h _ _ _ _ _ d c
theorem QExt.block{id}{Q}(h:QExt Q):QExt (zg0 id Q):=by
 intro e K g H nx c b
 cases e with
 |normal=>exact h _ _ _ _ _ c b
 |exit id'=>unfold zg0 at *;simp only at b⊢;cases d:Wa id' id<;>rw[d]at b<;>exact h _ _ _ _ _ c b
 |ret=>exact h _ _ _ _ _ c b
 |goto l=>exact h _ _ _ _ _ c b
theorem QExt.loop{B:Nat}{α:Type}{S:α->Kn×AH}{N:Nat}{d:α->Prop}{μ:α->Nat}{a:α}{Q:QT}(h:QExt Q):QExt (zsH B S N d μ a Q):=by
 intro e K n H nx c b
 cases e with
 |normal=>obtain⟨g,j,k,m⟩:=b;exact⟨g,j,k,m.ext c⟩
 |exit id=>exact h _ _ _ _ _ c b
 |ret=>exact h _ _ _ _ _ c b
 |goto l=>exact h _ _ _ _ _ c b
theorem QExt.join{B:Nat}{α:Type}{S:α->Kn×AH}{N:Nat}{d:α->Prop}{Q:QT}(h:QExt Q):QExt (zue B S N d Q):=by
 intro e K m H nx c b
 cases e with
 |normal=>obtain⟨g,j,k⟩:=b;exact⟨g,j,k.ext c⟩
 |exit id=>exact h _ _ _ _ _ c b
 |ret=>exact h _ _ _ _ _ c b
 |goto l=>exact h _ _ _ _ _ c b
theorem zs8{K K'}{H}{nx}(d:KEq K K')(b)(h:zcb K H nx b):zcb K' H nx b:=by
 induction b with
 |nil=>exact h
 |cons r b c=>
  cases r with
  |tmp t=>exact c h
  |cell t a n=>unfold zcb at h⊢;rw[<-d t];exact⟨h.1,c h.2⟩
theorem zsW{K K'}{H}{nx}(c:KEq K K')(b):zaU K H nx b=zaU K' H nx b:=by
 induction b with
 |nil=>rfl
 |cons r b ih=>
  cases r with
  |tmp t=>unfold zaU;rw[c t,ih]
  |cell t a n=>unfold zaU;rw[c t,ih]
theorem QExt.retK{g:List ARet}{c:AV->AH->Nat->Prop}:QExt (retK g c):=by
 intro e K h H nx d b;unfold Go.Ab.retK at *
 cases e with
 |exit id=>exact b
 |goto l=>exact b
 |normal=>exact⟨zs8 d _ b.1,by rw[<-zsW d];exact b.2⟩
 |ret=>exact⟨zs8 d _ b.1,by rw[<-zsW d];exact b.2⟩
theorem zAO{fx}{o}{K}{H}{nx}{k k'}(d:∀K H nx,k K H nx->k' K H nx)(h:ExK P fx o K H nx k):ExK P fx o K H nx k':=by
 unfold ExK at *
 cases g:o.guard with
 |none=>rw[g]at h;exact zcV (λv H nx h=>d _ _ _ h) h
 |some p=>
  obtain⟨t,c⟩:=p;rw[g]at h;simp only at h⊢
  cases j:grd c (K.get t)with
  |some b=>rw[j]at h;exact⟨λe=>zcV (λv H nx h=>d _ _ _ h) (h.1 e),λe=>d _ _ _ (h.2 e)⟩
  |none=>rw[j]at h;exact h
theorem alt_of{drop}{Q}{K}{H}{nx}(l)(h:∀p∈l,ExK P false p.1 K H nx (awpT P p.2 drop Q)):awpT P (zI7 l) drop Q K H nx:=by
 induction l with
 |nil=>trivial
 |cons p l c=>exact⟨h p (List.mem_cons_self ..),c λq b=>h q (Wo _ b)⟩
theorem zBY{ops}{deps}{drop}{Q}(Inv:List Bool->Kn->AH->Nat->Prop)(d:∀l K H nx i,l.length=ops.length->Inv l K H nx->i<ops.length->zbQ deps l i=true->ExK P false (ops.getD i default) K H nx (Inv (l.set i true)))(c:∀l K H nx,l.length=ops.length->Inv l K H nx->(∀i,i<ops.length->zbQ deps l i=false)->Q .normal (K.drop drop) H nx) :
  ∀(b:Nat)(l:List Bool)(K:Kn)(H:AH)(nx:Nat),l.length=ops.length->zhX l<=b->Inv l K H nx->awpT P (zcQ ops deps b l) drop Q K H nx
 |
  0,l,K,H,nx,hl,hc,h=>by
  refine c l K H nx hl h λi e=>?_
  have:=zlp (l:=l) (by omega) i (by omega);unfold zbQ;rw[this];rfl
 |
  b+1,l,K,H,nx,hl,hc,h=>by
  simp only[zcQ];have mem:∀i,i∈(Wk ops.length).filter (zbQ deps l)->i<ops.length/\zbQ deps l i=true:=λi e=>by have:=Wi.1 e;exact⟨Wl.1 this.1,this.2⟩
  have next:∀i,i<ops.length->zbQ deps l i=true->ExK P false (ops.getD i default) K H nx (awpT P (zcQ ops deps b (l.set i true)) drop Q):=λi e g=>by refine zAO (λK H nx m=>?_) (d l K H nx i hl h e g);refine zBY Inv d c b _ K H nx (by simpa using hl) ?_ m;have:=znh (l:=l) (i:=i) (by omega) (zbe.1 g).1;omega
  cases g:(Wk ops.length).filter (zbQ deps l)with
  |nil=>
   refine c l K H nx hl h λi e=>?_
   cases j:zbQ deps l i with
   |false=>rfl
   |true=>have:i∈(Wk ops.length).filter (zbQ deps l):=Wi.2 ⟨Wl.2 e,j⟩;rw[g]at this;simp at this
  |cons o r0=>
   simp only
   cases k:(o::r0).find? (zG6 ops deps l)with
   |some i=>have:=mem i (by rw[g];exact List.mem_of_find?_eq_some k);exact next i this.1 this.2
   |none=>
    refine alt_of _ λp n=>?_
    obtain⟨i,e,rfl⟩:=Wp.1 n;have:=mem i (by rw[g];exact e);exact next i this.1 this.2
def zaI:Kn->List (Nat×AV)->Kn
 |K,[]=>K
 |K,(d,v)::r=>zaI (K.set d v) r
def zzG(b:Kn):Option Nat->Kn->Prop
 |none,_=>True
 |some d,K=>K.get d=b.get d
def zpH(P:Program)(c:Kn)(o:AOper)(a b:AH×Nat):Prop:=zaV P (.tree (.step o .done)) [] (λ_ K H nx=>zzG c o.dst K/\H=b.1/\nx=b.2) c a.1 a.2
abbrev Plan:=List (Nat×List Nat×List Nat)
def zzp(P:Program)(ops:List AOper)(c:Kn)(b:List Nat->AH×Nat):Plan->Prop
 |[]=>True
 |(i,S,d)::r=>zpH P c (ops.getD i default) (b S) (b d)/\zzp P ops c b r
def beqL:List Nat->List Nat->Bool
 |[],[]=>true
 |a::l,b::m=>Wa a b&&beqL l m
 |_,_=>false
theorem zgW:∀{l m:List Nat},beqL l m=true->l=m
 |[],[],_=>rfl
 |
  a::l,b::m,h=>by
  simp only[beqL,Wc]at h;rw[zm h.1,zgW h.2]
 |[],_::_,h=>by cases h
 |_::_,[],h=>by cases h
def memP:Plan->Nat->List Nat->List Nat->Bool
 |[],_,_,_=>false
 |(i,k,d)::r,a,b,c=>(Wa i a&&(beqL k b&&beqL d c))||memP r a b c
def anyP:Plan->Nat->Bool
 |[],_=>false
 |(i,k,b)::r,a=>(Wa i a&&beqL k b)||anyP r a
def memS:List (List Nat)->List Nat->Bool
 |[],_=>false
 |a::r,b=>beqL a b||memS r b
theorem zwD:∀ {l:List (List Nat)}{b:List Nat},memS l b=true->b∈l
 |[],_,h=>by cases h
 |
  a::r,b,h=>by
  simp only[memS,Wm]at h;rcases h with h|h
  .rw[zgW h];simp
  .exact Wo _ (zwD h)
theorem ztK{ops}{Kf}{hs}:∀{l:Plan},zzp P ops Kf hs l->∀{a:Nat}{b c:List Nat},memP l a b c=true->zpH P Kf (ops.getD a default) (hs b) (hs c)
 |[],_,_,_,_,h=>by cases h
 |
  (i,k,k')::r,h,a,b,c,d=>by
  simp only[memP,Wm,Wc]at d;rcases d with ⟨e,g,j⟩|d
  .rw[<-zm e,<-zgW g,<-zgW j];exact h.1
  .exact ztK h.2 d
theorem zye{ops}{Kf}{hs}:∀{l:Plan},zzp P ops Kf hs l->∀{a:Nat},anyP l a=true->∃b,zpH P Kf (ops.getD a default) (hs b) (hs b)
 |[],_,_,h=>by cases h
 |
  (i,k,k')::r,h,a,c=>by
  simp only[anyP,Wm,Wc]at c;rcases c with ⟨d,e⟩|c
  .rw[<-zm d];have:=h.1;rw[<-zgW e]at this;exact⟨_,this⟩
  .exact zye h.2 c
def zfg(b:List Nat)(A:List (List Nat))(i:Nat)(S:List Nat):Bool :=
 !memN S i&&(b.all (λm=> !memN (A.getD i []) m||memN S m)&&S.all λm=> !memN (A.getD m []) i)
def znx(b:List Nat)(i:Nat)(S:List Nat):List Nat:=b.filter λm=>Wa m i||memN S m
structure DrawOk(ops:List AOper)(deps:List (List Nat))(Ls:List Nat)(A:List (List Nat))(St:List (List Nat))(plan:Plan)(ks:List Nat):Prop where
 low:∀(i:Nat),i<ops.length->∀j∈deps.getD i [],j<i
 clo:∀(i:Nat),i<ops.length->∀j∈A.getD i [],j∈deps.getD i []\/∃d∈deps.getD i [],j∈A.getD d []
 one:∀(i j d:Nat),i<ops.length->j<ops.length->(ops.getD i default).dst=some d->(ops.getD j default).dst=some d->i=j
 keys:∀k∈ks,∃o∈ops,o.dst=some k
 look:∀(i:Nat),i<ops.length->∀t∈(ops.getD i default).looks,(∃j∈A.getD i [],(ops.getD j default).dst=some t)\/∀o∈ops,o.dst≠some t
 lin:∀i∈Ls,i<ops.length
 st0:[]∈St
 stc:∀S∈St,∀i∈Ls,zfg Ls A i S=true->znx Ls i S∈St
 plan:∀(i:Nat),i<ops.length->((ops.getD i default).fixed=true/\(ops.getD i default).sees=false/\i∉Ls/\anyP plan i=true) \/
  (i∉Ls/\∀S∈St,zfg Ls A i S=true->memP plan i S S=true)\/(i∈Ls/\∀S∈St,zfg Ls A i S=true->memP plan i S (znx Ls i S)=true)
def allB(n:Nat)(p:Nat->Bool):Bool:=(Wk n).all p
def zAY(ops:List AOper)(b:List (List Nat))(g:List Nat)(A:List (List Nat))(St:List (List Nat))(c:Plan)(h:List Nat):Bool :=
 allB ops.length (λi=>(b.getD i []).all λj=>Wd j i) &&
 allB ops.length (λi=>(A.getD i []).all λj=>memN (b.getD i []) j||(b.getD i []).any λd=>memN (A.getD d []) j) &&
 allB ops.length (λi=>allB i λj=>match (ops.getD i default).dst,(ops.getD j default).dst with|some d,some e=> !Nat.beq d e|_,_=>true) &&
 h.all (λk=>ops.any λo=>match o.dst with|some d=>Wa d k|none=>false) &&
 allB ops.length (λi=>(ops.getD i default).looks.all λt=>((A.getD i []).any λj=>match (ops.getD j default).dst with|some d=>Wa d t|none=>false)||ops.all λo=>match o.dst with|some d=> !Nat.beq d t|none=>true) &&
 g.all (λi=>Wd i ops.length) &&
 memS St [] &&
 St.all (λS=>g.all λi=> !zfg g A i S||memS St (znx g i S)) &&
 allB ops.length (λi=>bif memN g i then St.all λS=> !zfg g A i S||memP c i S (znx g i S)
  else((ops.getD i default).fixed&&(!(ops.getD i default).sees&&anyP c i))||St.all λS=> !zfg g A i S||memP c i S S)
theorem zbD{n}{p}(h:allB n p=true){i}(b:i<n):p i=true:=Wf.1 h i (Wl.2 b)
theorem impB{a b}(h:(!a||b)=true)(c:a=true):b=true:=by subst c;simpa using h
theorem zx6{ops}{deps}{Ls}{A}{St}{plan}{ks}(h:zAY ops deps Ls A St plan ks=true):DrawOk ops deps Ls A St plan ks:=by
 unfold zAY at h;simp only[Wc]at h;obtain⟨⟨⟨⟨⟨⟨⟨⟨w,x⟩,h3⟩,h4⟩,h5⟩,h6⟩,h7⟩,h8⟩,h9⟩:=h;have g:∀i j d,i<ops.length->j<i->(ops.getD i default).dst=some d->(ops.getD j default).dst=some d->False:=λi j d b c s u=>by have:=zbD (zbD h3 b) c;rw[s,u]at this;simp[zbP]at this
 constructor
 .intro i b j c;exact Wq (Wf.1 (zbD w b) j c)
 .intro i b j c;have:=Wf.1 (zbD x b) j c;rcases Wr.1 this with this|this
  .exact .inl ((zar _ _).1 this)
  .obtain⟨d,hd,m⟩:=Ww.1 this;exact .inr ⟨d,hd,(zar _ _).1 m⟩
 .intro i j d b c s u;rcases Nat.lt_trichotomy i j with h|h|h
  .exact(g j i d c h u s).elim
  .exact h
  .exact(g i j d b h s u).elim
 .intro k y;obtain⟨o,v,hd⟩:=Ww.1 (Wf.1 h4 k y);refine⟨o,v,?_⟩
  cases e:o.dst with
  |none=>rw[e]at hd;cases hd
  |some d=>rw[e]at hd;rw[zm hd]
 .intro i b t z;have:=Wf.1 (zbD h5 b) t z;rcases Wr.1 this with this|this
  .obtain⟨j,c,hd⟩:=Ww.1 this;refine .inl ⟨j,c,?_⟩
   cases e:(ops.getD j default).dst with
   |none=>rw[e]at hd;cases hd
   |some d=>rw[e]at hd;rw[zm hd]
  .refine .inr λo v e=>?_
   have:=Wf.1 this o v;rw[e]at this;simp[zbP]at this
 .intro i b;exact Wq (Wf.1 h6 i b)
 .exact zwD h7
 .intro S n i b p;exact zwD (impB (Wf.1 (Wf.1 h8 S n) i b) p)
 .intro i b;have:=zbD h9 b
  cases m:memN Ls i with
  |true=>rw[m]at this;exact .inr (.inr ⟨(zar _ _).1 m,λS n p=>impB (Wf.1 this S n) p⟩)
  |false=>
   rw[m]at this;have q:=zqu m;rcases Wr.1 this with this|this
   .simp only[Wc,WE]at this;exact .inl ⟨this.1,this.2.1,q,this.2.2⟩
   .exact .inr (.inl ⟨q,λS n p=>impB (Wf.1 this S n) p⟩)
theorem zgK:∀ {b:List (Nat×AV)}{K:Kn}{t:Nat},t∉b.map (·.1)->(zaI K b).get t=K.get t
 |[],_,_,_=>rfl
 |
  (d,v)::r,K,t,h=>by
  simp only[List.map_cons,Wx,not_or]at h;rw[zaI,zgK h.2,Xb,if_neg h.1]
def zud:List (Nat×AV)->Nat->Option AV
 |[],_=>none
 |
  (d,v)::r,t=>match zud r t with
  |some u=>some u
  |none=>bif Wa d t then some v else none
def zCq(K:Kn)(t:Nat):Option AV->AV
 |some v=>v
 |none=>K.get t
theorem zj:∀ {b:List (Nat×AV)}{K:Kn}{t:Nat},(zaI K b).get t=zCq K t (zud b t)
 |[],_,_=>rfl
 |
  (d,v)::r,K,t=>by
  rw[zaI,zj];simp only[zud]
  cases zud r t with
  |some u=>rfl
  |none=>
   simp only[zCq,Xb];by_cases h:t=d
   .subst h;simp[zbP,zCq]
   .simp[h,zbc (Ne.symm h),zCq]
structure DInv(ops:List AOper)(deps:List (List Nat))(Ls:List Nat)(St:List (List Nat))(Kf:Kn)(hs:List Nat->AH×Nat)(l:List Bool)(K:Kn)(H:AH)(nx:Nat):Prop where
 clo:∀i,i<ops.length->getB l i=true->∀j∈deps.getD i [],getB l j=true
 done:∀i d,i<ops.length->getB l i=true->(ops.getD i default).dst=some d->K.get d=Kf.get d
 rest:∀t,(∀o∈ops,o.dst≠some t)->K.get t=Kf.get t
 here:Ls.filter (getB l)∈St
 rows:(H,nx)=hs (Ls.filter (getB l))
theorem zIC{ops:List AOper}{i:Nat}(h:i<ops.length):ops.getD i default∈ops:=by rw[Wg,Wn h];exact List.getElem_mem h
theorem zAP{ops}{b}{Ls}{A}{St}{plan}{ks}(ok:DrawOk ops b Ls A St plan ks){l}(m:∀i,i<ops.length->getB l i=true->∀j∈b.getD i [],getB l j=true):∀(i:Nat),i<ops.length->(∀j∈b.getD i [],getB l j=true)->∀j∈A.getD i [],getB l j=true:=by
 intro i
 induction i using Wy with
 |_ i ih=>
  intro g hd j n;rcases ok.clo i g j n with h|⟨d,e,k⟩
  .exact hd j h
  .have c:=ok.low i g d e;exact ih d c (by omega) (m d (by omega) (hd d e)) j k
theorem zjN(K:Kn)(t:Nat):(K.drop []).get t=K.get t:=by rw[Kn.get_drop'];rfl
theorem zyz{Kf}{o}{H}{nx}{v}(u:o.fixed=true)(s:Yld P o Kf.get H nx v)(q:∀d,o.dst=some d->upd Kf.get o.dst v d=Kf.get d):zpH P Kf o (H,nx) (H,nx):=by
 have h:=zmE (k:=λρ H2 nx2=>(∀d,o.dst=some d->ρ d=Kf.get d)/\H2=H/\nx2=nx) s ⟨q,rfl,rfl⟩;unfold zpH zaV;simp only[awpT];unfold ExF at h;unfold ExK
 have conv:∀{v:AV}{H2:AH}{nx2:Nat},((∀d,o.dst=some d->upd Kf.get o.dst v d=Kf.get d)/\H2=H/\nx2=nx)->zzG Kf o.dst ((setO Kf o.dst v).drop [])/\H2=H/\nx2=nx:=λ{v H2 nx2} m=>by
  refine⟨?_,m.2⟩
  cases e:o.dst with
  |none=>trivial
  |some d=>have g:=m.1 d e;rw[e,<-zpm]at g;show Xa _ d=_;rw[zjN];exact g
 cases j:o.guard with
 |none=>rw[j]at h;exact zcV (λv H nx h=>conv h) h
 |some p=>
  obtain⟨t,c⟩:=p;rw[j]at h;simp only at h⊢
  cases n:grd c (Kf.get t)with
  |some b=>rw[n]at h;exact⟨λe=>zcV (λv H nx h=>conv h) (h.1 e),λe=>by simpa using conv (v:=.tup []) (H2:=H) (nx2:=nx) ⟨(h.2 e).1,rfl,rfl⟩⟩
  |none=>rw[n]at h;exact h
theorem zzK{Kf K}{o}{H}{nx}{b}(k:∀t∈o.looks,K.get t=Kf.get t)(h:zpH P Kf o (H,nx) b):
  ExK P false o K H nx (λn c nx2=>zzG Kf o.dst n/\(∀t,o.dst≠some t->n.get t=K.get t)/\(c,nx2)=b):=by
 unfold zpH zaV at h;simp only[awpT]at h
 have conv:∀{v:AV}{c:AH}{nx2:Nat},(zzG Kf o.dst ((setO Kf o.dst v).drop [])/\c=b.1/\nx2=b.2)->zzG Kf o.dst (setO K o.dst v)/\(∀t,o.dst≠some t->(setO K o.dst v).get t=K.get t)/\(c,nx2)=b:=λ{v c nx2} z=>by
  obtain⟨q,x,y⟩:=z;refine⟨?_,λt g=>?_,by rw[x,y]⟩
  .cases e:o.dst with
   |none=>trivial
   |some d=>rw[e]at q;have s:Xa _ d=_:=q;rw[zjN]at s;show Xa _ d=_;rw[<-s];simp only[setO,Xb,if_true]
  .cases e:o.dst with
   |none=>rfl
   |some d=>
    have:¬t=d:=λw=>g (by rw[e,w])
    simp only[setO,Xb,if_neg this]
 unfold ExK at *
 cases m:o.guard with
 |none=>rw[m]at h;simp only at h⊢;rw[zle (ρ':=Kf.get) (λt g=>k t (znk g))];exact zcV (λv H nx h=>conv h) h
 |some p=>
  obtain⟨t,j⟩:=p;rw[m]at h;simp only at h⊢;rw[k t (zkY m)]
  cases u:grd j (Kf.get t)with
  |some b=>rw[u]at h;refine⟨λe=>?_,λe=>conv (h.2 e)⟩;rw[zle (ρ':=Kf.get) (λt g=>k t (znk g))];exact zcV (λv H nx h=>conv h) (h.1 e)
  |none=>rw[u]at h;exact h
theorem zpD{ops}{Kf}{hs}:zzp P ops Kf hs []=True:=rfl
theorem zng{ops}{Kf}{hs}{i}{S S'}{r}:zzp P ops Kf hs ((i,S,S')::r)=(zpH P Kf (ops.getD i default) (hs S) (hs S')/\zzp P ops Kf hs r):=rfl
theorem zcW{Kf}{d}{v}:zzG Kf (some d) ((Kf.set d v).drop [])=(v=Kf.get d):=by show(((Kf.set d v).drop []).get d=Kf.get d)=_;rw[zjN,Xb,if_pos rfl]
theorem zca{Kf K}:zzG Kf none K=True:=rfl
def zDm(drop:List Nat):List (Nat×AV)->List (Nat×AV)
 |[]=>[]
 |(d,v)::r=>bif memN drop d then zDm drop r else(d,v)::zDm drop r
theorem zvi{drop}{t}:∀ {vs:List (Nat×AV)},zud (zDm drop vs) t=bif memN drop t then none else zud vs t
 |[]=>by cases memN drop t<;>rfl
 |
  (d,v)::r=>by
  have c:=zvi (drop:=drop) (t:=t) (vs:=r);simp only[zDm,zud]
  cases hd:memN drop d with
  |true=>
   simp only[cond_true,c]
   cases b:memN drop t with
   |true=>rfl
   |false=>
    have:Wa d t=false:=zbc λe=>by rw[e,b]at hd;cases hd
    simp only[cond_false,this];cases zud r t<;>rfl
  |false=>
   simp only[cond_false,zud,c]
   cases b:memN drop t with
   |true=>
    have:Wa d t=false:=zbc λe=>by rw[e,b]at hd;cases hd
    simp only[cond_true,this,cond_false]
   |false=>simp only[cond_false]
theorem zIu{drop}{b kept}{K0}(h:zDm drop b=kept):KEq (zaI (K0.drop drop) kept) ((zaI K0 b).drop drop):=λt=>by
 rw[<-h,zj,zvi,Kn.get_drop',zj]
 cases c:memN drop t with
 |true=>simp only[cond_true,zCq,Kn.get_drop',c]
 |false=>
  simp only[cond_false]
  cases zud b t with
  |some v=>rfl
  |none=>simp only[zCq,Kn.get_drop',c,cond_false]
def hsOf(l:List (AH×Nat))(S:List Nat):AH×Nat:=l.getD S.length ([],0)
theorem zsg{ops:List AOper}{w:List (List Nat)}{drop:List Nat}{Q:QT}{F:Kn}{H0:AH}{V n:Nat}(k:List Nat)(A St:List (List Nat))(N:Plan)(O:List (Nat×AV))(W:List Nat->AH×Nat)(hc:zAY ops w k A St N (O.map (·.1))=true)(hn:n=ops.length)(h0:W []=(H0,V))(hq:QExt Q)(hp':∀(Kf:Kn)(hs':List Nat->AH×Nat),Kf=zaI F O->hs'=W->zzp P ops Kf hs' N)(M:List (Nat×AV))(S:zDm drop O=M)(he:Q .normal (zaI (F.drop drop) M) (W k).1 (W k).2) :
  zaV P (.tree (zcQ ops w n (Wj n false))) drop Q F H0 V:=by
 have ok:=zx6 hc;have hp:=hp' _ _ rfl rfl;subst hn;have C:∀i,getB (Wj ops.length false) i=false:=λi=>by unfold getB;rw[Wg,Wu];split<;>rfl
 have noR:k.filter (getB (Wj ops.length false))=[]:=by rw[WF];intro i _;rw[C];simp
 have R:∀m,zhX (Wj m false)=m:=by
  intro m
  induction m with
  |zero=>rfl
  |succ m ih=>rw[WL,zhX,ih];simp;omega
 refine zBY (DInv ops w k St (zaI F O) W) ?_ ?_ ops.length _ F H0 V (by simp) (by rw[R];omega) ⟨λi _ h=>(by rw[C]at h;cases h),λi d _ h=>(by rw[C]at h;cases h),λt X=>?_,?_,?_⟩
 .intro l K H nx i hl c y U;obtain⟨hun,D⟩:=zbe.1 U;have hA:=zAP ok c.clo i y D
  have hlk:∀t∈(ops.getD i default).looks,K.get t=(zaI F O).get t:=λt X=>by
   rcases ok.look i y t X with ⟨j,I,hd⟩|h
   .have g:=hA j I;have hjn:j<ops.length:=by apply Xe;intro hcon;unfold getB at g;rw[Wg,Wz (by omega)]at g;cases g
    exact c.done j t hjn g hd
   .exact c.rest t h
  have s:zfg k A i (k.filter (getB l))=true:=by
   unfold zfg;simp only[Wc,WE,Wf,Wm];refine⟨?_,λm x=>?_,λm x=>?_⟩
   .cases q:memN (k.filter (getB l)) i with
    |false=>rfl
    |true=>have:=(Wi.1 ((zar _ _).1 q)).2;rw[hun]at this;cases this
   .cases q:memN (A.getD i []) m with
    |false=>exact .inl rfl
    |true=>exact .inr ((zar _ _).2 (Wi.2 ⟨x,hA m ((zar _ _).1 q)⟩))
   .obtain⟨hmL,hml⟩:=Wi.1 x
    cases q:memN (A.getD m []) i with
    |false=>rfl
    |true=>have:=zAP ok c.clo m (ok.lin m hmL) (c.clo m (ok.lin m hmL) hml) i ((zar _ _).1 q);rw[hun]at this;cases this
  have key:∃b,zpH P (zaI F O) (ops.getD i default) (H,nx) b/\b=W (k.filter (getB (l.set i true)))/\k.filter (getB (l.set i true))∈St:=by
   have p:i∉k->k.filter (getB (l.set i true))=k.filter (getB l):=λu=>by
    refine WA λm x=>?_
    rw[zfH (by omega),if_neg (λe:m=i=>u (by rw[<-e];exact x))]
   rcases ok.plan i y with ⟨hf,hse,u,ha⟩|⟨u,hk⟩|⟨hin,hk⟩
   .obtain⟨b,q⟩:=zye hp ha;refine⟨(H,nx),?_,by rw[p u];exact c.rows,by rw[p u];exact c.here⟩;unfold zpH zaV at q;simp only[awpT]at q
    have J:=zwa (k':=λρ H2 nx2=>∀d,(ops.getD i default).dst=some d->ρ d=(zaI F O).get d) (λK2 H2 nx2 hh d e=>by
     have h3:=hh.1;rw[e]at h3;have h4:Xa _ d=_:=h3;rw[zjN]at h4
     exact h4) q
    obtain⟨v,hy,hv⟩:=zo5 hf J;exact zyz hf (zwJ (H':=H) (nx':=nx) hse hy) hv
   .refine⟨(H,nx),?_,by rw[p u];exact c.rows,by rw[p u];exact c.here⟩;have:=ztK hp (hk _ c.here s);rw[<-c.rows]at this;exact this
   .have hnx:znx k i (k.filter (getB l))=k.filter (getB (l.set i true)):=by
     unfold znx;refine WA λm x=>?_
     rw[zfH (by omega)];by_cases B:m=i
     .subst B;simp[zbP]
     .rw[if_neg B,zbc B,WG]
      cases q:getB l m with
      |true=>exact(zar _ _).2 (Wi.2 ⟨x,q⟩)
      |false=>
       cases hb2:memN (k.filter (getB l)) m with
       |false=>rfl
       |true=>have:=(Wi.1 ((zar _ _).1 hb2)).2;rw[q]at this;cases this
    have J:=ztK hp (hk _ c.here s);have Y:=ok.stc _ c.here i hin s;rw[hnx]at J Y;rw[<-c.rows]at J;exact⟨_,J,rfl,Y⟩
  obtain⟨b,q,hbe,hbs⟩:=key;refine zAO (λK2 H2 nx2 hh=>?_) (zzK hlk q);obtain⟨J,Y,h3⟩:=hh;refine⟨?_,?_,?_,hbs,?_⟩
  .intro j I g m x;rw[zfH (by omega)]at g⊢;by_cases B:m=i
   .rw[if_pos B]
   .rw[if_neg B];by_cases z:j=i
    .subst z;exact D m x
    .rw[if_neg z]at g;exact c.clo j I g m x
  .intro j d I g hd;rw[zfH (by omega)]at g;by_cases z:j=i
   .subst z;rw[hd]at J;exact J
   .rw[if_neg z]at g;rw[Y d (λe=>z (ok.one j i d I y hd e))];exact c.done j d I g hd
  .intro t X;rw[Y t (X _ (zIC y))];exact c.rest t X
  .rw[<-hbe,h3]
 .intro l K H nx hl c T
  have L:∀i,i<ops.length->getB l i=true:=by
   intro i
   induction i using Wy with
   |_ i ih=>
    intro y;have:=T i y
    cases q:getB l i with
    |true=>rfl
    |false=>have U:zbQ w l i=true:=zbe.2 ⟨q,λj I=>ih j (ok.low i y j I) (by have:=ok.low i y j I;omega)⟩;rw[this]at U;cases U
  have hK:KEq (zaI F O) K:=λt=>by
   by_cases h:∃o∈ops,o.dst=some t
   .obtain⟨o,ho,hd⟩:=h;obtain⟨i,y,he⟩:=WH.1 ho;have e:ops.getD i default=o:=by rw[Wg,Wn y,he];rfl
    exact(c.done i t y (L i y) (by rw[e];exact hd)).symm
   .exact(c.rest t (λo ho e=>h ⟨o,ho,e⟩)).symm
  have Z:k.filter (getB l)=k:=WM.2 (λm x=>L m (ok.lin m x));have U:=c.rows;rw[Z]at U;rw[<-U]at he;exact hq _ _ _ _ _ (λt=>(zIu S t).trans (hK.drop drop t)) he
 .rw[zgK];intro x;obtain⟨o,ho,hd⟩:=ok.keys t x;exact X o ho hd
 .rw[noR];exact ok.st0
 .rw[noR];exact h0.symm
end
def AV.lt0(n:Nat):AV->Bool
 |.ptr r _ _ _ _=>Wd r n
 |.own r _ _ _ _=>Wd r n
 |.mp r _=>Wd r n
 |.it r=>Wd r n
 |.fn _ _ |.agg _ |.tup _=>false
 |_=>true
def AV.lt1(n:Nat):AV->Bool
 |.fn _ l=>l.all (AV.lt0 n)
 |.agg l=>l.all (AV.lt0 n)
 |.tup l=>l.all (AV.lt0 n)
 |a=>a.lt0 n
theorem AV.lt0_below{n}{a}(h:a.lt0 n=true):AV.Below n a:=by cases a<;>first|(cases h;done)|(constructor;done)|(constructor;exact Wq h)
theorem AV.lt1_below{n}{a}(h:a.lt1 n=true):AV.Below n a:=by cases a<;>first|exact AV.lt0_below h|(constructor;intro b c;exact AV.lt0_below (Wf.1 h b c))
def zqT(n:Nat)(b:List (List AV)):Prop:=∀c∈b,c.all (AV.lt0 n)=true
def zen(n:Nat):AH->Prop
 |[]=>True
 |(r,.row _ b _)::t=>(r<n/\zqT n b)/\zen n t
 |(r,.fam _ c)::t=>(r<n/\∀p∈c,zqT n p.1)/\zen n t
theorem zCR{n}{c}(h:zz c=true):c.all (AV.lt0 n)=true:=by
 induction c with
 |nil=>rfl
 |cons a c b=>simp only[zz,Wc]at h;simp only[List.all_cons,Wc];refine⟨?_,b h.2⟩;cases a<;>first|rfl|(have:=h.1;cases this;done)
theorem zaf{n}{b}(h:∀c∈b,zz c=true):zqT n b:=λc d=>zCR (h c d)
theorem zcn{n}:∀{H:AH},zen n H->∀{r:Nat}{o:AObj},H.look r=some o->r<n/\∀q u b g,o.part q=some (.row u b g)->zqT n b
 |[],_,_,_,h=>by cases h
 |
  (j,.row s e g0)::t,h,r,o,hl=>by
  simp only[AH.look]at hl
  cases c:Wa j r with
  |true=>
   rw[c]at hl;simp only[cond_true,Ws]at hl;subst hl;rw[<-zm c];refine⟨h.1.1,λq u b g d=>?_⟩
   cases q with
   |zero=>simp only[AObj.part,Ws,AObj.row.injEq]at d;rw[<-d.2.1];exact h.1.2
   |succ q=>simp[AObj.part]at d
  |false=>rw[c]at hl;exact zcn h.2 hl
 |
  (j,.fam s ins)::t,h,r,o,hl=>by
  simp only[AH.look]at hl
  cases c:Wa j r with
  |true=>
   rw[c]at hl;simp only[cond_true,Ws]at hl;subst hl;rw[<-zm c];refine⟨h.1.1,λq u b g d=>?_⟩
   cases q with
   |zero=>simp[AObj.part]at d
   |succ i=>simp only[AObj.part]at d;obtain⟨p,k,m⟩:=WB.1 d;cases m;exact h.1.2 p (WC k)
  |false=>rw[c]at hl;exact zcn h.2 hl
theorem zgz{n}{H}(h:zen n H){r q d}{b}{g}(c:H.get r q=some (.row d b g)):r<n/\zqT n b:=by unfold AH.get at c;obtain⟨o,e,j⟩:=Option.bind_eq_some_iff.1 c;have:=zcn h e;exact⟨this.1,this.2 q d b g j⟩
theorem zqh{n}{H}(h:zen n H)(ι)(b):live (ι.upto n) H b↔live ι H b:=by
 constructor
 .rintro⟨r,q,m,c,g,l,e,d,j,k⟩;refine⟨r,q,m,c,g,l,e,?_,j,k⟩;simp only[Xc]at d;split at d
  .exact d
  .cases d
 .rintro⟨r,q,m,c,g,l,e,d,j,k⟩;exact⟨r,q,m,c,g,l,e,by simp only[Xc];rw[if_pos (zgz h e).1];exact d,j,k⟩
theorem RelH.low{w}{L}{ι}{H}{nx n}(rel:RelH w L ι H nx)(h:zen n H):RelH w L (ι.upto n) H n:=by
 have u:Lt L (ι.upto n) H=Lt L ι H:=by funext b;simp only[Lt,zqh h]
 constructor
 .intro r q A e g p;obtain⟨l,s,ok⟩:=rel.row r q A e g p;have z:=zgz h p;refine⟨l,by simp only[Xc];rw[if_pos z.1];exact s,ok.hsz,ok.wide,ok.plain,ok.spec,λi c j a x y=>?_⟩;obtain⟨v,t,k,m⟩:=ok.hold i c j a x y;rw[u];exact⟨v,t,k,m.upto (AV.lt0_below (Wf.1 (z.2 c (WC x)) a (WC y)))⟩
 .intro O M P N Q D I J R F B K s t k m;simp only[Xc]at k m;rw[if_pos (zgz h s).1]at k;rw[if_pos (zgz h t).1]at m;exact rel.apart _ _ _ _ _ _ _ _ _ _ _ _ s t k m
 .intro b C;exact rel.out b ((zqh h ι b).1 C)
 .intro r q g l d;simp only[Xc]at d;split at d
  .assumption
  .cases d
 .intro r o d;exact(zcn h d).1
 .intro r q A e g p B l d;simp only[Xc]at d;rw[if_pos (zgz h p).1]at d;exact rel.gen _ _ _ _ _ p _ _ d
 .exact rel.Lsz
theorem zH3{P}{f}{asv}{H}{nx}{k}(n)(s:We nx n=true)(h:zS P f asv H nx (λv d _=>(v.lt1 n=true/\zen n d)/\k v d n)):zS P f asv H nx k:=by
 intro w L ι y rel x;refine(h w L ι y rel x).mono λe z ⟨v,c,d,nx',a,h1,j,h3,h4,⟨t,m⟩,h7⟩=>?_
 refine⟨v,c.upto n,d,n,a,h1,⟨j.ext,λr q g l p=>?_,j.rel.low m,λb u=>j.lv b ((zqh m c b).1 u)⟩,Wq s,?_,h7⟩
 .simp only[Xc];rw[if_pos (WI (rel.idx _ _ _ _ p) (Wq s))];exact j.inj _ _ _ _ p
 .have o:Lt L (c.upto n) d=Lt L c d:=by funext b;simp only[Lt,zqh m]
  rw[o];exact h4.upto (AV.lt1_below t)
theorem zE{α:Type}{f:α->List AV}{l:List α}(h:∀a,zz (f a)=true):zw (l.map f):=λc b=>by obtain⟨a,_,rfl⟩:=Wp.1 b;exact h a
theorem zas{c}(h:zz c=true):zw [c]:=λd hd=>by rw[List.mem_singleton.1 hd];exact h
theorem znp:zw []:=λd hd=>by cases hd
theorem zal{c}{l}(h:zz c=true)(b:zw l):zw (c::l):=λd hd=>by
 rcases Wx.1 hd with rfl|hd
 .exact h
 .exact b d hd
theorem zi6{l m}(h:zw l)(b:zw m):zw (l++m):=λd hd=>by
 rcases List.mem_append.1 hd with hd|hd
 .exact h d hd
 .exact b d hd
theorem zpx{H HH}{σ}{D}{t}:∀{l:List AV},zz l=true->VwL H HH σ D t l l
 |[],_=>trivial
 |
  a::l,h=>by
  simp only[zz,Wc]at h;exact⟨zl h.1,zpx h.2⟩
theorem RowV.of_flat{H HH}{σ}{D}{els}(h:zw els):RowV H HH σ D els els:=zkK h
def hsAt:List (List Nat×AH×Nat)->List Nat->AH×Nat
 |[],_=>([],0)
 |(T,x)::r,S=>bif beqL T S then x else hsAt r S
theorem evA:type_of% @evS/\type_of% @evZ/\type_of% @evX/\type_of% @evK/\type_of% @evB/\type_of% @evL/\type_of% @evR:=⟨@evS,@evZ,@evX,@evK,@evB,@evL,@evR⟩
theorem evWA:type_of% @evW/\type_of% @evK/\type_of% @evB/\type_of% @evL:=⟨@evW,@evK,@evB,@evL⟩
theorem dis1{p:Prop}(h:p:=by first|omega|(simp only[evF,evL,implies_true,and_self];done)|fail):p:=h
def Im(q p:Prop):Prop:=q->p
theorem Im.i{α:Sort _}{q p:α->Prop}(h:∀x,Im (q x) (p x)):Im (∀x,q x) (∀x,p x):=λk x=>h x (k x)
theorem Im.a{q a b:Prop}(c:a)(h:Im q b):Im q (a/\b):=λk=>⟨c,h k⟩
theorem Im.r{p:Prop}:Im p p:=λh=>h
theorem m9A{a:Type}{l m:List a}:(l++m).length=l.length+m.length:=by simp
theorem m9P{a b:Type}{f:a->b}{l m:List a}:(l++m).map f=l.map f++m.map f:=by simp
theorem m9C{a b:Type}{f:a->b}{x:a}{l:List a}:(x::l).map f=f x::l.map f:=rfl
theorem aJ{a b:Prop}(d:b)(c:a:=by with_unfolding_all omega):a/\b:=⟨c,d⟩
theorem Gw0{p q:Prop}(k:q)(h:Im q p:=by(repeat first|simp(disch:=try exact dis1) only[evD,Nat.reduceBEq,Nat.reduceAdd,Nat.reduceLeDiff]|((with_reducible apply Im.i);intro _)|((with_reducible apply Im.a);omega));exact Im.r):p:=h k
theorem Gw1{b p q:Prop}(a0:b)(k:q)(h:b->Im q p:=by intro a0;(repeat first|simp(disch:=try exact dis1) only[evD,Nat.reduceBEq,Nat.reduceAdd,Nat.reduceLeDiff,a0]|((with_reducible apply Im.i);intro _)|((with_reducible apply Im.a);omega));exact Im.r):p:=h a0 k
theorem Gw2{c d p q:Prop}(a0:c)(b:d)(k:q)(h:c->d->Im q p:=by intro a0 b;(repeat first|simp(disch:=try exact dis1) only[evD,Nat.reduceBEq,Nat.reduceAdd,Nat.reduceLeDiff,a0,b]|((with_reducible apply Im.i);intro _)|((with_reducible apply Im.a);omega));exact Im.r):p:=h a0 b k
theorem Gw3{d e g p q:Prop}(a0:d)(b:e)(c:g)(k:q)(h:d->e->g->Im q p:=by intro a0 b c;(repeat first|simp(disch:=try exact dis1) only[evD,Nat.reduceBEq,Nat.reduceAdd,Nat.reduceLeDiff,a0,b,c]|((with_reducible apply Im.i);intro _)|((with_reducible apply Im.a);omega));exact Im.r):p:=h a0 b c k
theorem Gw4{d e g j p q:Prop}(a0:d)(b:e)(c:g)(a3:j)(k:q)(h:d->e->g->j->Im q p:=by intro a0 b c a3;(repeat first|simp(disch:=try exact dis1) only[evD,Nat.reduceBEq,Nat.reduceAdd,Nat.reduceLeDiff,a0,b,c,a3]|((with_reducible apply Im.i);intro _)|((with_reducible apply Im.a);omega));exact Im.r):p:=h a0 b c a3 k
theorem Gw5{d e g j m p q:Prop}(a0:d)(b:e)(c:g)(a3:j)(a4:m)(k:q)(h:d->e->g->j->m->Im q p:=by intro a0 b c a3 a4;(repeat first|simp(disch:=try exact dis1) only[evD,Nat.reduceBEq,Nat.reduceAdd,Nat.reduceLeDiff,a0,b,c,a3,a4]|((with_reducible apply Im.i);intro _)|((with_reducible apply Im.a);omega));exact Im.r):p:=h a0 b c a3 a4 k
theorem Gw6{d e g j m n p q:Prop}(a0:d)(b:e)(c:g)(a3:j)(a4:m)(a5:n)(k:q)(h:d->e->g->j->m->n->Im q p:=by intro a0 b c a3 a4 a5;(repeat first|simp(disch:=try exact dis1) only[evD,Nat.reduceBEq,Nat.reduceAdd,Nat.reduceLeDiff,a0,b,c,a3,a4,a5]|((with_reducible apply Im.i);intro _)|((with_reducible apply Im.a);omega));exact Im.r):p:=h a0 b c a3 a4 a5 k
theorem Gw7{e g j m n o s p q:Prop}(a0:e)(b:g)(c:j)(a3:m)(a4:n)(a5:o)(d:s)(k:q)(h:e->g->j->m->n->o->s->Im q p:=by intro a0 b c a3 a4 a5 d;(repeat first|simp(disch:=try exact dis1) only[evD,Nat.reduceBEq,Nat.reduceAdd,Nat.reduceLeDiff,a0,b,c,a3,a4,a5,d]|((with_reducible apply Im.i);intro _)|((with_reducible apply Im.a);omega));exact Im.r):p:=h a0 b c a3 a4 a5 d k
theorem Gw8{g j m n o s t u p q:Prop}(a0:g)(b:j)(c:m)(a3:n)(a4:o)(a5:s)(d:t)(e:u)(k:q)(h:g->j->m->n->o->s->t->u->Im q p:=by intro a0 b c a3 a4 a5 d e;(repeat first|simp(disch:=try exact dis1) only[evD,Nat.reduceBEq,Nat.reduceAdd,Nat.reduceLeDiff,a0,b,c,a3,a4,a5,d,e]|((with_reducible apply Im.i);intro _)|((with_reducible apply Im.a);omega));exact Im.r):p:=h a0 b c a3 a4 a5 d e k
theorem Gw9{j m n o s t u v w p q:Prop}(a0:j)(b:m)(c:n)(a3:o)(a4:s)(a5:t)(d:u)(e:v)(g:w)(k:q)(h:j->m->n->o->s->t->u->v->w->Im q p:=by intro a0 b c a3 a4 a5 d e g;(repeat first|simp(disch:=try exact dis1) only[evD,Nat.reduceBEq,Nat.reduceAdd,Nat.reduceLeDiff,a0,b,c,a3,a4,a5,d,e,g]|((with_reducible apply Im.i);intro _)|((with_reducible apply Im.a);omega));exact Im.r):p:=h a0 b c a3 a4 a5 d e g k
theorem Gw10{j m n o s t u v w x p q:Prop}(a0:j)(b:m)(c:n)(a3:o)(a4:s)(a5:t)(d:u)(e:v)(g:w)(a9:x)(k:q)(h:j->m->n->o->s->t->u->v->w->x->Im q p:=by intro a0 b c a3 a4 a5 d e g a9;(repeat first|simp(disch:=try exact dis1) only[evD,Nat.reduceBEq,Nat.reduceAdd,Nat.reduceLeDiff,a0,b,c,a3,a4,a5,d,e,g,a9]|((with_reducible apply Im.i);intro _)|((with_reducible apply Im.a);omega));exact Im.r):p:=h a0 b c a3 a4 a5 d e g a9 k
theorem Gw11{n o s t u v w x y z c p q:Prop}(a0:n)(d:o)(e:s)(a3:t)(a4:u)(a5:v)(g:w)(j:x)(m:y)(a9:z)(b:c)(k:q)(h:n->o->s->t->u->v->w->x->y->z->c->Im q p:=by intro a0 d e a3 a4 a5 g j m a9 b;(repeat first|simp(disch:=try exact dis1) only[evD,Nat.reduceBEq,Nat.reduceAdd,Nat.reduceLeDiff,a0,d,e,a3,a4,a5,g,j,m,a9,b]|((with_reducible apply Im.i);intro _)|((with_reducible apply Im.a);omega));exact Im.r):p:=h a0 d e a3 a4 a5 g j m a9 b k
theorem Gw12{s t u v w x y z A B d e p q:Prop}(a0:s)(g:t)(j:u)(a3:v)(a4:w)(a5:x)(m:y)(n:z)(o:A)(a9:B)(b:d)(c:e)(k:q)(h:s->t->u->v->w->x->y->z->A->B->d->e->Im q p:=by intro a0 g j a3 a4 a5 m n o a9 b c;(repeat first|simp(disch:=try exact dis1) only[evD,Nat.reduceBEq,Nat.reduceAdd,Nat.reduceLeDiff,a0,g,j,a3,a4,a5,m,n,o,a9,b,c]|((with_reducible apply Im.i);intro _)|((with_reducible apply Im.a);omega));exact Im.r):p:=h a0 g j a3 a4 a5 m n o a9 b c k
theorem Gw14{w x y z A B C D F H g j m n p q:Prop}(a0:w)(o:x)(s:y)(a3:z)(a4:A)(a5:B)(t:C)(u:D)(v:F)(a9:H)(b:g)(c:j)(d:m)(e:n)(k:q)(h:w->x->y->z->A->B->C->D->F->H->g->j->m->n->Im q p:=by intro a0 o s a3 a4 a5 t u v a9 b c d e;(repeat first|simp(disch:=try exact dis1) only[evD,Nat.reduceBEq,Nat.reduceAdd,Nat.reduceLeDiff,a0,o,s,a3,a4,a5,t,u,v,a9,b,c,d,e]|((with_reducible apply Im.i);intro _)|((with_reducible apply Im.a);omega));exact Im.r):p:=h a0 o s a3 a4 a5 t u v a9 b c d e k
theorem m9L{a:Type}{x:a}{l:List a}:(x::l).length=l.length+1:=rfl
theorem m9M{a b:Type}{f:a->b}{l:List a}:(l.map f).length=l.length:=by simp
theorem m9O{a:Type}:([]:List a).length=0:=rfl
theorem m9S{a:Type}{l:List a}{i:Nat}{x:a}:(l.set i x).length=l.length:=by simp
theorem m9N{a b:Type}{f:a->b}:([]:List a).map f=[]:=rfl
theorem gmp{a:Type}{l:List a}{i:Nat}(h:i<l.length):∀(f:a->List AV)(d:List AV),(l.map f).getD i d=f (l[i]'h):=λf d=>by simp[List.getD,h]
theorem fin1{p:Prop}(h:p:=by(repeat' with_reducible apply And.intro)<;>first|omega|exact zbX rfl rfl (by omega)|exact zbz rfl rfl (by omega)|exact zqc rfl rfl (by omega)|exact zkK (by repeat' first|exact bytes_flat|exact flat1|refine flat_app ?_ ?_)|exact zvH (λ_=>rfl)|exact zau (c:=cN) (λ_=>rfl) rfl|exact zck (λ_=>rfl) (by decide) ⟨rfl,rfl⟩ trivial|exact zck (λ_=>rfl) (by decide) (λ_ _=>⟨rfl,rfl⟩) trivial|(simp;done)|fail):p:=h
theorem Gin1_0{p:Prop}(h:p:=by(try simp only[evWB,Nat.reduceBEq,Nat.reduceAdd,Nat.reduceSub,Nat.reduceLeDiff,Nat.reduceLT,implies_true])<;>exact fin1):p:=h
theorem Gin1_1{b p:Prop}(a0:b)(h:b->p:=by intro a0;(try simp only[evWB,Nat.reduceBEq,Nat.reduceAdd,Nat.reduceSub,Nat.reduceLeDiff,Nat.reduceLT,implies_true,a0])<;>exact fin1):p:=h a0
theorem Gin1_2{c d p:Prop}(a0:c)(b:d)(h:c->d->p:=by intro a0 b;(try simp only[evWB,Nat.reduceBEq,Nat.reduceAdd,Nat.reduceSub,Nat.reduceLeDiff,Nat.reduceLT,implies_true,a0,b])<;>exact fin1):p:=h a0 b
theorem Gin1_3{d e g p:Prop}(a0:d)(b:e)(c:g)(h:d->e->g->p:=by intro a0 b c;(try simp only[evWB,Nat.reduceBEq,Nat.reduceAdd,Nat.reduceSub,Nat.reduceLeDiff,Nat.reduceLT,implies_true,a0,b,c])<;>exact fin1):p:=h a0 b c
theorem Gin1_6{d e g j k m p:Prop}(a0:d)(b:e)(c:g)(a3:j)(a4:k)(a5:m)(h:d->e->g->j->k->m->p:=by intro a0 b c a3 a4 a5;(try simp only[evWB,Nat.reduceBEq,Nat.reduceAdd,Nat.reduceSub,Nat.reduceLeDiff,Nat.reduceLT,implies_true,a0,b,c,a3,a4,a5])<;>exact fin1):p:=h a0 b c a3 a4 a5
theorem fin2{p:Prop}(h:p:=by((repeat' with_reducible apply And.intro)<;>first|omega|rfl|exact zpx rfl|(refine RowV.of_flat ?_;(repeat' (first|exact zE (λ_=>rfl)|exact zE (λ_=>zp)|exact zE (λ_=>zq)|exact zas zp|exact zas zq|exact zpz rfl|exact znp|exact zas rfl|refine zi6 ?_ ?_|refine zal rfl ?_|refine zal zp ?_|refine zal zq ?_));done)|((repeat' (first|exact zE (λ_=>rfl)|exact zE (λ_=>zp)|exact zE (λ_=>zq)|exact zas zp|exact zas zq|exact zpz rfl|exact znp|exact zas rfl|refine zi6 ?_ ?_|refine zal rfl ?_|refine zal zp ?_|refine zal zq ?_));done)|exact zbX rfl rfl (by omega)|exact zbz rfl rfl (by omega)|exact zqc rfl rfl (by omega)|exact zvH (λ_=>rfl)|exact zck (λ_=>rfl) (by decide) ⟨rfl,rfl⟩ trivial|exact zck (λ_=>rfl) (by decide) (λ_ _=>⟨rfl,rfl⟩) trivial|(simp;done)|fail)):p:=h
theorem Gin2_1{b p:Prop}(a0:b)(h:b->p:=by intro a0;(try simp only[evWB,Nat.reduceBEq,Nat.reduceAdd,Nat.reduceSub,Nat.reduceLeDiff,Nat.reduceLT,implies_true,a0])<;>exact fin2):p:=h a0
theorem Gin2_2{c d p:Prop}(a0:c)(b:d)(h:c->d->p:=by intro a0 b;(try simp only[evWB,Nat.reduceBEq,Nat.reduceAdd,Nat.reduceSub,Nat.reduceLeDiff,Nat.reduceLT,implies_true,a0,b])<;>exact fin2):p:=h a0 b
theorem Gin2_3{d e g p:Prop}(a0:d)(b:e)(c:g)(h:d->e->g->p:=by intro a0 b c;(try simp only[evWB,Nat.reduceBEq,Nat.reduceAdd,Nat.reduceSub,Nat.reduceLeDiff,Nat.reduceLT,implies_true,a0,b,c])<;>exact fin2):p:=h a0 b c
theorem Gin2_4{d e g j p:Prop}(a0:d)(b:e)(c:g)(a3:j)(h:d->e->g->j->p:=by intro a0 b c a3;(try simp only[evWB,Nat.reduceBEq,Nat.reduceAdd,Nat.reduceSub,Nat.reduceLeDiff,Nat.reduceLT,implies_true,a0,b,c,a3])<;>exact fin2):p:=h a0 b c a3
theorem Gin2_5{d e g j k p:Prop}(a0:d)(b:e)(c:g)(a3:j)(a4:k)(h:d->e->g->j->k->p:=by intro a0 b c a3 a4;(try simp only[evWB,Nat.reduceBEq,Nat.reduceAdd,Nat.reduceSub,Nat.reduceLeDiff,Nat.reduceLT,implies_true,a0,b,c,a3,a4])<;>exact fin2):p:=h a0 b c a3 a4
theorem Gin2_8{g j k m n o q s p:Prop}(a0:g)(b:j)(c:k)(a3:m)(a4:n)(a5:o)(d:q)(e:s)(h:g->j->k->m->n->o->q->s->p:=by intro a0 b c a3 a4 a5 d e;(try simp only[evWB,Nat.reduceBEq,Nat.reduceAdd,Nat.reduceSub,Nat.reduceLeDiff,Nat.reduceLT,implies_true,a0,b,c,a3,a4,a5,d,e])<;>exact fin2):p:=h a0 b c a3 a4 a5 d e
theorem Gin2_12{o q s t u v w x y z d e p:Prop}(a0:o)(g:q)(j:s)(a3:t)(a4:u)(a5:v)(k:w)(m:x)(n:y)(a9:z)(b:d)(c:e)(h:o->q->s->t->u->v->w->x->y->z->d->e->p:=by intro a0 g j a3 a4 a5 k m n a9 b c;(try simp only[evWB,Nat.reduceBEq,Nat.reduceAdd,Nat.reduceSub,Nat.reduceLeDiff,Nat.reduceLT,implies_true,a0,g,j,a3,a4,a5,k,m,n,a9,b,c])<;>exact fin2):p:=h a0 g j a3 a4 a5 k m n a9 b c
def zGr(n:Nat)(p:AV)(H:AH):Bool :=
 match p with
 |
  .ptr r q g i f=>match H.get r q with
  |some (.row d b c)=>Wa g c&&(Wd i b.length&&We (f+n) d)
  |_=>false
 |.iptr m _=>We n m
 |_=>false
def zBP(n:Nat)(p v:AV)(H:AH):Bool :=
 match p with
 |
  .ptr r q g i f=>match H.get r q with
  |some (.row d b c)=>Wa g c&&(Wd i b.length&&(We (f+n) d&&(v.solid&&Wa v.cells.length n)))
  |_=>false
 |_=>false
def idxS(c:Nat)(x i:AV)(H:AH):Bool :=
 match x,i with
 |.sl b n _,.int _ k=>Wa b c&&(decide (0<=k)&&decide (k<n))
 |
  .own r q g _ n,.int _ k=>match H.get r q with
  |some (.row b _ d)=>Wa b c&&(Wa g d&&(decide (0<=k)&&decide (k<n)))
  |_=>false
 |_,_=>false
def zvE(off n:Nat)(x:AV):Bool :=
 match x with
 |.ptr ..=>true
 |.iptr m _=>We (off+n) m
 |_=>false
def fldS(off n:Nat)(x:AV):Bool :=
 match x with
 |.agg b=>We (off+n) b.length
 |_=>false
def lenS(x:AV):Bool :=
 match x with
 |.sl .. |.own .. |.nilsl |.cut=>true
 |_=>false
def slenS(x:AV):Bool :=
 match x with
 |.str _=>true
 |_=>false
def binS(op:BinOp)(x y:AV):Bool :=
 match x,y with
 |
  .int k _,.int k' b=>match op with
  |.quo |.rem=>decide (k=k')&&decide (b≠0)
  |.shl |.shr=>decide (0<=b)
  |_=>decide (k=k')
 |_,_=>false
def eqbS(x y:AV):Bool :=
 match x,y with
 |.bool _,.bool _=>true
 |_,_=>false
def unS(op:UnOp)(x:AV):Bool :=
 match op,x with
 |.not,.bool _=>true
 |.neg,.int _ _=>true
 |_,_=>false
def convS(x:AV):Bool :=
 match x with
 |.int _ _=>true
 |_=>false
def zJ5(c:AV):Bool :=
 match c with
 |.bool _=>true
 |_=>false
def zIo(n:Nat):List (Nat×Nat×AV)->Bool
 |[]=>true
 |(off,size,v)::r=>(v.solid&&(Wa v.cells.length size&&We (off+size) n))&&zIo n r
def setS(n b:Nat):List (Nat×AV)->Bool
 |[]=>true
 |(i,v)::r=>(v.solid&&(Wa v.cells.length b&&Wd i n))&&setS n b r
def mkslS(bytes:Nat)(l c:AV):Bool :=
 match l,c with
 |.int k n,.int b m=>decide (k=.i64)&&(decide (b=.i64)&&(decide (0<=n)&&(decide (n<=m)&&(decide (bytes*m<=140737488355328)&&Wd 0 bytes))))
 |_,_=>false
def loI:Option AV->Option Int
 |none=>some 0
 |some (.int _ k)=>some k
 |_=>none
def hiI(n:Nat):Option AV->Option Int
 |none=>some n
 |some (.int _ k)=>some k
 |_=>none
def zEy(h:Nat)(x:AV)(e d:Option AV)(H:AH):Bool :=
 match x with
 |
  .sl c n _=>match loI e,hiI n d with
  |some a,some b=>Wa c h&&(decide (0<=a)&&(decide (a<=b)&&decide (b<=n)))
  |_,_=>false
 |
  .own r q g _ n=>match H.get r q,loI e,hiI n d with
  |some (.row c _ j),some a,some b=>Wa c h&&(Wa g j&&(decide (0<=a)&&(decide (a<=b)&&decide (b<=n))))
  |_,_,_=>false
 |
  .nilsl=>match loI e,hiI 0 d with
  |some a,some b=>decide (a=0)&&decide (b=0)
  |_,_=>false
 |_=>false
def cutS(x:AV):Bool :=
 match x with
 |.sl _ _ _ |.own _ _ _ _ _ |.nilsl |.cut=>true
 |_=>false
def zCX(H:AH):AV->Bool
 |
  .own r q _ off n=>match H.get r q with
  |some (.row _ b _)=>We (off+n) b.length
  |_=>false
 |_=>true
def zvG(d bytes:Nat)(x y:AV)(H:AH):Bool :=
 match zcq d y H,lenV y with
 |
  some _,some m=>match x with
  |
   .own r q g off n=>match H.get r q with
   |some (.row c b e)=>Wa c d&&(Wa g e&&(We (off+n) b.length&&(zCX H y&&We ((n+m)*bytes) 140737488355328)))
   |_=>false
  |.nilsl |.cut=>zCX H y&&We (m*bytes) 140737488355328
  |_=>false
 |_,_=>false
def zFG(e:Nat)(x:AV)(H:AH):Bool :=
 match x with
 |
  .own r q g off n=>match H.get r q with
  |some (.row c b d)=>Wa c e&&(Wa g d&&We (off+n) b.length)
  |_=>false
 |_=>false
def extS(i:Nat)(x:AV):Bool :=
 match x with
 |.tup b=>Wd i b.length
 |_=>false
def keyS:Option IntKind->AV->Bool
 |some q,.int k _=>decide (q=k)
 |none,.str _=>true
 |_,_=>false
def xopS:XOp->List AV->AH->Bool
 |
  .mark,[.own r q g _ n],H=>match H.get r q with
  |some (.row d _ o)=>Wa d 1&&(Wa g o&&Wd 0 n)
  |_=>false
 |.nilck,[.ptr ..],_=>true
 |.nilck,[.iptr ..],_=>true
 |.seq _,[.str _,.str _],_=>true
 |.sidx,[.str s,.int _ k],_=>decide (0<=k)&&decide (k<s.size)
 |
  .b2s,[x],H=>match zcq 1 x H with
  |some h=>(zgu h).isSome&&(zCX H x&&(lenV x).isSome)
  |none=>false
 |.s2b,[.str _],_=>true
 |
  .sapp,[.own r q g off n,.str s],H=>match H.get r q with
  |some (.row e h o)=>Wa e 1&&(Wa g o&&(We (off+n) h.length&&We (n+s.size) 140737488355328))
  |_=>false
 |.sapp,[.nilsl,.str s],_=>We s.size 140737488355328
 |.sapp,[.cut,.str s],_=>We s.size 140737488355328
 |.min,[.int k _,.int p _],_=>decide (k=p)
 |.max,[.int k _,.int p _],_=>decide (k=p)
 |.eqs _ u,[.agg a,.agg b],_=>(zT u a b).isSome
 |.sl3 d,[.sl e n _,.int _ b,.int _ c],_=>Wa e d&&(decide (0<=b)&&(decide (b<=c)&&decide (c<=n)))
 |
  .sl3 d,[.own r q g _ n,.int _ b,.int _ c],H=>match H.get r q with
  |some (.row e _ o)=>Wa e d&&(Wa g o&&(decide (0<=b)&&(decide (b<=c)&&decide (c<=n))))
  |_=>false
 |.sl3 _,[.nilsl,.int _ b,.int _ c],_=>decide (b=0)&&decide (c=0)
 |.capn,[.nilsl],_=>true
 |.apz d bytes _,[.nilsl,.int _ n],_=>decide (0<=n)&&(decide (n*bytes<=140737488355328)&&(Wd 0 d&&Wd 0 bytes))
 |.mkmap,[],_=>true
 |.mlook str _ _,[.nilmp,k],_=>keyS str k
 |
  .mlook str _ _,[.mp r q,k],H=>match H.get r q with
  |some (.row d (_::j) g)=>(zeC k j 0).isSome&&(Wa d 3&&(Wa g 0&&keyS str k))
  |_=>false
 |
  .mset str,[.mp r q,k,_],H=>match H.get r q with
  |some (.row d ([.int .i64 c,_,_]::j) g)=>(zeC k j 0).isSome&&(Wa d 3&&(Wa g 0&&(keyS str k&&decide (c<9223372036854775807))))
  |_=>false
 |.mlen,[.nilmp],_=>true
 |
  .mlen,[.mp r q],H=>match H.get r q with
  |some (.row d (_::j) g)=>Wa d 3&&(Wa g 0&&We j.length big)
  |_=>false
 |.mdel str,[.nilmp,k],_=>keyS str k
 |
  .mdel str,[.mp r q,k],H=>match H.get r q with
  |some (.row d (_::j) g)=>(zeC k j 0).isSome&&(Wa d 3&&(Wa g 0&&keyS str k))
  |_=>false
 |.mrange,[.nilmp],_=>true
 |
  .mrange,[.mp r q],H=>match H.get r q with
  |some (.row d ([.int .i64 _,_,_]::_) g)=>Wa d 3&&Wa g 0
  |_=>false
 |.aidx len d _,[.agg t,.int _ k],_=>decide (0<=k)&&(decide (k<len)&&We (len*d) t.length)
 |.aaddr len _,[.ptr ..,.int _ k],_=>decide (0<=k)&&decide (k<len)
 |.aaddr len d,[.iptr m _,.int _ k],_=>decide (0<=k)&&(decide (k<len)&&We (len*d) m)
 |_,_,_=>false
def zmo:AOp->(Nat->AV)->AH->Bool
 |.mov _,_,_=>true
 |.mknil _,_,_=>true
 |.pick c _ _,K,_=>zJ5 (ev K c)
 |.load _ n p,K,H=>zGr n (ev K p) H
 |.store n p v,K,H=>zBP n (ev K p) (ev K v) H
 |.idx b x i,K,H=>idxS b (ev K x) (ev K i) H
 |.fldaddr off n x,K,_=>zvE off n (ev K x)
 |.fld off n _ x,K,_=>fldS off n (ev K x)
 |.len x,K,_=>lenS (ev K x)
 |.slen x,K,_=>slenS (ev K x)
 |.bin op x y,K,_=>binS op (ev K x) (ev K y)
 |.eqb _ x y,K,_=>eqbS (ev K x) (ev K y)
 |.un op x,K,_=>unS op (ev K x)
 |.conv _ x,K,_=>convS (ev K x)
 |.build zero parts,K,_=>zIo zero.length (zeD K parts)
 |.buildSl b len _ parts,K,_=>setS len b (zkD K parts)
 |.box x,K,_=>(ev K x).solid
 |.rbox x,K,_=>(ev K x).solid&&zz (ev K x).cells
 |.rbuildSl b len z parts,K,_=>setS len b (zkD K parts)&&(zc7 (Wj len z) (zkD K parts)).all zz
 |.alloc _,_,_=>true
 |.mksl _ bytes _ l c,K,_=>mkslS bytes (ev K l) (ev K c)
 |.slice b x e d,K,H=>zEy b (ev K x) (evO K e) (evO K d) H
 |.cut x,K,_=>cutS (ev K x)
 |.mkfn _ _,_,_=>true
 |.append b bytes x y,K,H=>zvG b bytes (ev K x) (ev K y) H
 |.clear b _ x,K,H=>zFG b (ev K x) H
 |.ext i x,K,_=>extS i (ev K x)
 |.xop x args,K,H=>xopS x (evs K args) H
 |_,_,_=>false
theorem beqT{a b}(h:Wa a b=true):a=b:=zm h
theorem bltT{a b}(h:Wd a b=true):a<b:=Wq h
theorem bleT{a b}(h:We a b=true):a<=b:=Wq h
theorem zpw{H}{y}(h:zCX H y=true):fits H y:=by
 unfold zCX at h;unfold fits;split at h
 .split at h
  .rename_i e;simp only[e];exact bleT h
  .cases h
 .rename_i b;split
  .rename_i r q g off n;exact absurd rfl (b r q g off n)
  .trivial
theorem zB3{n}:∀ {l:List (Nat×Nat×AV)},zIo n l=true->ztJ n l
 |[],_=>trivial
 |
  (off,size,v)::r,h=>by
  simp only[zIo,Wc]at h;exact⟨⟨h.1.1,beqT h.1.2.1,bleT h.1.2.2⟩,zB3 h.2⟩
theorem zz9{n sz}:∀ {l:List (Nat×AV)},setS n sz l=true->znJ n sz l
 |[],_=>trivial
 |
  (i,v)::r,h=>by
  simp only[setS,Wc]at h;exact⟨⟨h.1.1,beqT h.1.2.1,bltT h.1.2.2⟩,zz9 h.2⟩
theorem zoH{k}{v}(h:keyS k v=true):zhq k v:=by
 unfold keyS at h;split at h
 .rename_i q k n;exact(of_decide_eq_true h:q=k)
 .trivial
 .cases h
theorem zA8{agg}{n}{p}{H}{nx}(h:zGr n p H=true):(zd5 agg n p H nx).side:=by
 unfold zGr at h;unfold zd5;split at h
 .split at h
  .rename_i e;simp only[e];simp only[Wc]at h;exact⟨beqT h.1,bltT h.2.1,bleT h.2.2⟩
  .cases h
 .exact bleT h
 .cases h
theorem zFi{n}{p v}{H}{nx}(h:zBP n p v H=true):(zfu n p v H nx).side:=by
 unfold zBP at h;unfold zfu;split at h
 .split at h
  .rename_i e;simp only[e];simp only[Wc]at h;exact⟨beqT h.1,bltT h.2.1,bleT h.2.2.1,h.2.2.2.1,beqT h.2.2.2.2⟩
  .cases h
 .cases h
theorem zKU{sz}{x i}{H}{nx}(h:idxS sz x i H=true):(idxR sz x i H nx).side:=by
 unfold idxS at h;unfold idxR;split at h
 .simp only[Wc,decide_eq_true_eq]at h;exact⟨beqT h.1,h.2.1,h.2.2⟩
 .split at h
  .rename_i e;simp only[e];simp only[Wc,decide_eq_true_eq]at h;exact⟨beqT h.1,beqT h.2.1,h.2.2.1,h.2.2.2⟩
  .cases h
 .cases h
theorem zJQ{op}{x y}{H}{nx}(h:binS op x y=true):(binI op x y H nx).side:=by
 unfold binS at h;unfold binI;split at h
 .cases op<;>simp only[Wc,decide_eq_true_eq]at h<;>exact h
 .cases h
theorem zD1{d}{x}{lo hi}{H}{nx}(h:zEy d x lo hi H=true):(zfY d x lo hi H nx).side:=by
 unfold zEy at h
 cases x with
 |sl c n f=>
  simp only at h;split at h
  .rename_i a b e k;simp only[Wc,decide_eq_true_eq]at h;have:(zfY d (.sl c n f) lo hi H nx).side=(match loI lo,hiI n hi with|some a,some b=>(⟨c=d/\0<=a/\a<=b/\b<=n,True,.sl d (b-a).toNat (λi j=>f (a.toNat+i) j),H,nx⟩:ORes)|_,_=>bad H nx).side:=rfl;rw[this,e,k];exact⟨beqT h.1,h.2.1,h.2.2.1,h.2.2.2⟩
  .cases h
 |own r q g off n=>
  simp only at h;split at h
  .rename_i c p m a b e k o;simp only[Wc,decide_eq_true_eq]at h;have:(zfY d (.own r q g off n) lo hi H nx).side=(match H.get r q,loI lo,hiI n hi with|some (.row c _ m),some a,some b=>(⟨c=d/\g=m/\0<=a/\a<=b/\b<=n,True,.own r q g (off+a.toNat) (b-a).toNat,H,nx⟩:ORes)|_,_,_=>bad H nx).side:=rfl;rw[this,e,k,o];exact⟨beqT h.1,beqT h.2.1,h.2.2.1,h.2.2.2.1,h.2.2.2.2⟩
  .cases h
 |nilsl=>
  simp only at h;split at h
  .rename_i a b e k;simp only[Wc,decide_eq_true_eq]at h;have:(zfY d .nilsl lo hi H nx).side=(match loI lo,hiI 0 hi with|some a,some b=>(⟨a=0/\b=0,True,.nilsl,H,nx⟩:ORes)|_,_=>bad H nx).side:=rfl;rw[this,e,k];exact⟨h.1,h.2⟩
  .cases h
 |_=>cases h
theorem zDt{sz bytes}{x y}{H}{nx}(h:zvG sz bytes x y H=true):(ze8 sz bytes x y H nx).side:=by
 unfold zvG at h;unfold ze8;split at h
 .rename_i b c;simp only[b,c];split at h
  .split at h
   .rename_i d;simp only[d];simp only[Wc]at h;exact⟨beqT h.1,beqT h.2.1,bleT h.2.2.1,zpw h.2.2.2.1,bleT h.2.2.2.2⟩
   .cases h
  .simp only[Wc]at h;exact⟨zpw h.1,bleT h.2⟩
  .simp only[Wc]at h;exact⟨zpw h.1,bleT h.2⟩
  .cases h
 .cases h
theorem zFu{sz}{zero}{x}{H}{nx}(h:zFG sz x H=true):(ziF sz zero x H nx).side:=by
 unfold zFG at h;unfold ziF;split at h
 .split at h
  .rename_i e;simp only[e];simp only[Wc]at h;exact⟨beqT h.1,beqT h.2.1,bleT h.2.2⟩
  .cases h
 .cases h
theorem zKX{x}{l}{H}{nx}(h:xopS x l H=true):(xopR x l H nx).side:=by
 unfold xopS at h;split at h
 .split at h
  .rename_i e;simp only[Wc]at h;simp only[xopR,zr4,e];exact⟨beqT h.1,beqT h.2.1,bltT h.2.2⟩
  .cases h
 .trivial
 .trivial
 .trivial
 .simp only[Wc,decide_eq_true_eq]at h;exact⟨h.1,h.2⟩
 .split at h
  .rename_i e;simp only[Wc]at h;obtain⟨l,g⟩:=Wv.1 h.1;simp only[xopR,b2sR,e,g];exact⟨zpw h.2.1,h.2.2⟩
  .cases h
 .trivial
 .split at h
  .rename_i e;simp only[Wc]at h;simp only[xopR,zqU,e];exact⟨beqT h.1,beqT h.2.1,bleT h.2.2.1,bleT h.2.2.2⟩
  .cases h
 .exact bleT h
 .exact bleT h
 .rename_i k a d b;exact(of_decide_eq_true h:k=d)
 .rename_i k a d b;exact(of_decide_eq_true h:k=d)
 .obtain⟨t,c⟩:=Wv.1 h;simp only[xopR,eqsR,c]
 .simp only[Wc,decide_eq_true_eq]at h;exact⟨beqT h.1,h.2.1,h.2.2.1,h.2.2.2⟩
 .split at h
  .rename_i e;simp only[Wc,decide_eq_true_eq]at h;simp only[xopR,sl3R,e];exact⟨beqT h.1,beqT h.2.1,h.2.2.1,h.2.2.2.1,h.2.2.2.2⟩
  .cases h
 .simp only[Wc,decide_eq_true_eq]at h;exact⟨h.1,h.2⟩
 .trivial
 .simp only[Wc,decide_eq_true_eq]at h;exact⟨h.1,h.2.1,bltT h.2.2.1,bltT h.2.2.2⟩
 .trivial
 .exact zoH h
 .split at h
  .rename_i e;simp only[Wc]at h;obtain⟨t,c⟩:=Wv.1 h.1;simp only[xopR,zjn,e,c];exact⟨beqT h.2.1,beqT h.2.2.1,zoH h.2.2.2⟩
  .cases h
 .split at h
  .rename_i e;simp only[Wc,decide_eq_true_eq]at h;obtain⟨t,c⟩:=Wv.1 h.1;simp only[xopR,znK,e,c]
   cases t with
   |none=>exact⟨beqT h.2.1,beqT h.2.2.1,zoH h.2.2.2.1,h.2.2.2.2⟩
   |some p=>exact⟨beqT h.2.1,beqT h.2.2.1,zoH h.2.2.2.1⟩
  .cases h
 .trivial
 .split at h
  .rename_i e;simp only[Wc]at h;simp only[xopR,zsv,e];exact⟨beqT h.1,beqT h.2.1,bleT h.2.2⟩
  .cases h
 .exact zoH h
 .split at h
  .rename_i e;simp only[Wc]at h;obtain⟨t,c⟩:=Wv.1 h.1;simp only[xopR,zrR,e,c]
   cases t with
   |none=>exact⟨beqT h.2.1,beqT h.2.2.1,zoH h.2.2.2⟩
   |some p=>exact⟨beqT h.2.1,beqT h.2.2.1,zoH h.2.2.2⟩
  .cases h
 .trivial
 .split at h
  .rename_i e;simp only[Wc]at h;simp only[xopR,zhA,e];exact⟨beqT h.1,beqT h.2⟩
  .cases h
 .simp only[Wc,decide_eq_true_eq]at h;exact⟨h.1,h.2.1,bleT h.2.2⟩
 .simp only[Wc,decide_eq_true_eq]at h;exact h
 .simp only[Wc,decide_eq_true_eq]at h;exact⟨h.1,h.2.1,bleT h.2.2⟩
 .cases h
theorem zHm{op}{K}{H}{nx}(h:zmo op K H=true):(aop op K H nx).side:=by
 cases op with
 |mov|mknil|alloc|mkfn=>trivial
 |load a n p=>exact zA8 h
 |store n p v=>exact zFi h
 |idx s x i=>exact zKU h
 |slice s x m j=>exact zD1 h
 |append s b x y=>exact zDt h
 |clear s z x=>exact zFu h
 |bin op x y=>exact zJQ h
 |xop x t=>exact zKX h
 |build z e=>exact zB3 h
 |buildSl s l z e=>exact zz9 h
 |rbuildSl s l z e=>simp only[zmo,Wc]at h;exact⟨zz9 h.1,h.2⟩
 |box x=>exact h
 |rbox x=>simp only[zmo,Wc]at h;exact h
 |mksl s b z l c=>
  simp only[zmo,mkslS]at h;simp only[aop,zlz];generalize ev K l=ul at h⊢;generalize ev K c=g at h⊢;split at h
  .simp only[Wc,decide_eq_true_eq]at h;exact⟨h.1,h.2.1,h.2.2.1,h.2.2.2.1,h.2.2.2.2.1,bltT h.2.2.2.2.2⟩
  .cases h
 |pick c x y=>
  simp only[zmo,zJ5]at h;simp only[aop,zlu];generalize ev K c=g at h⊢;split at h
  .trivial
  .cases h
 |fldaddr o n x=>
  simp only[zmo,zvE]at h;simp only[aop,zcO];generalize ev K x=d at h⊢;split at h
  .trivial
  .exact bleT h
  .cases h
 |fld o n a x=>
  simp only[zmo,fldS]at h;simp only[aop,fldR];generalize ev K x=d at h⊢;split at h
  .exact bleT h
  .cases h
 |len x=>simp only[zmo,lenS]at h;simp only[aop,lenR];generalize ev K x=d at h⊢;split at h<;>first|trivial|cases h
 |slen x=>simp only[zmo,slenS]at h;simp only[aop,zte];generalize ev K x=d at h⊢;split at h<;>first|trivial|cases h
 |eqb n x y=>simp only[zmo,eqbS]at h;simp only[aop,eqB];generalize ev K x=d at h⊢;generalize ev K y=q at h⊢;split at h<;>first|trivial|cases h
 |un o x=>simp only[zmo,unS]at h;simp only[aop,unR];generalize ev K x=d at h⊢;split at h<;>first|trivial|cases h
 |conv k x=>simp only[zmo,convS]at h;simp only[aop,zmt];generalize ev K x=d at h⊢;split at h<;>first|trivial|cases h
 |cut x=>simp only[zmo,cutS]at h;simp only[aop,cutR];generalize ev K x=d at h⊢;split at h<;>first|trivial|cases h
 |ext i x=>
  simp only[zmo,extS]at h;simp only[aop,extR];generalize ev K x=d at h⊢;split at h
  .exact bltT h
  .cases h
 |_=>cases h
def frzV:Nat->AH->AV->AV
 |0,_,_=>.undef
 |
  d+1,H,v=>match v with
  |
   .own r q g off n=>match H.get r q with
   |some (.row c b e)=>bif Wa g e&&(We n big&&We (off+n) b.length)then .sl c n (λi j=>frzV d H ((b.getD (off+i) []).getD j .undef))else .undef
   |_=>.undef
  |
   .ptr r q g i o=>match H.get r q with
   |some (.row c b e)=>bif Wa g e&&(Wd i b.length&&We o c)then .iptr (c-o) (λj=>frzV d H ((b.getD i []).getD (o+j) .undef))else .undef
   |_=>.undef
  |.agg l=>.agg (l.map (frzV d H))
  |.tup l=>.tup (l.map (frzV d H))
  |.fn f l=>.fn f (l.map (frzV d H))
  |.mp _ _=>.undef
  |.it _=>.undef
  |.nilmp=>.undef
  |v=>v
theorem zmk{H}:∀(d:Nat)(v:AV),Frz H v (frzV d H v)
 |0,v=>.undef _ _
 |
  d+1,v=>by
  unfold frzV
  cases v with
  |own r q g off n=>
   simp only;split
   .rename_i p h t e
    cases m:Wa g t&&(We n big&&We (off+n) h.length)with
    |false=>exact .undef _ _
    |true=>simp only[Wc]at m;have u:=beqT m.1;subst u;exact .frz _ r q g off n p h _ trivial e (bleT m.2.1) (bleT m.2.2) λi j _ _=>zmk d _
   .exact .undef _ _
  |ptr r q g i o=>
   simp only;split
   .rename_i p h t e
    cases m:Wa g t&&(Wd i h.length&&We o p)with
    |false=>exact .undef _ _
    |true=>simp only[Wc]at m;have u:=beqT m.1;subst u;have k:=bleT m.2.2;exact .frzp _ r q g i o (p-o) p h _ trivial e (bltT m.2.1) (by omega) λj _=>zmk d _
   .exact .undef _ _
  |agg l=>
   refine .agg _ _ _ (by simp) λi a b s k=>?_
   rw[Wt,s]at k;cases k;exact zmk d a
  |tup l=>
   refine .tup _ _ _ (by simp) λi a b s k=>?_
   rw[Wt,s]at k;cases k;exact zmk d a
  |fn f l=>
   refine .fn _ _ _ _ (by simp) λi a b s k=>?_
   rw[Wt,s]at k;cases k;exact zmk d a
  |undef=>exact .undef _ _
  |int=>exact .int _ _ _
  |bool=>exact .bool _ _
  |str=>exact .str _ _
  |nilp=>exact .nilp _
  |iptr n c=>exact .iptr _ _ _
  |sl p n f=>exact .sl _ _ _ _
  |nilsl=>exact .nilsl _
  |cut=>exact .cut _
  |nilfn=>exact .nilfn _
  |mp|it|nilmp=>exact .undef _ _
abbrev zb2:=FuncId->List AV->AH->Nat->Option (AV×AH×Nat)
def zb2.Sound(P:Program)(call:zb2):Prop:=∀f args H nx r,call f args H nx=some r->zS P f args H nx (λv c b=>(v,c,b)=r)
def zF2(call:zb2)(f:FuncId)(args:List AV)(H:AH):Option AV :=
 bif args.all AV.flat then
  match call f args [] 0 with
  |some (v,b,_)=>some (frzV 9 b v)
  |none=>none
 else
  match call f (args.map (frzV 9 H)) [] 0 with
  |some (v,b,_)=>bif (frzV 9 b v).scal then some (frzV 9 b v)else none
  |none=>none
def ztL(P:Program)(call:zb2)(op:AOp)(ρ:Nat->AV)(H:AH)(nx:Nat):Option (AV×AH×Nat) :=
 match op with
 |.call f args=>call f (evs ρ args) H nx
 |
  .callq f args=>match zF2 call f (evs ρ args) H with
  |some v=>some (v,H,nx)
  |none=>none
 |
  .isnil neg p x=>match nilB p (ev ρ x)with
  |some (some b)=>some (.bool (b != neg),H,nx)
  |_=>none
 |.mnext _=>none
 |.append2 ..=>none
 |
  .callv x args=>match ev ρ x with
  |.fn (.func f) c=>bif zfd P f then call f (evs ρ args++c) H nx else none
  |_=>none
 |op=>bif zmo op ρ H then some ((aop op ρ H nx).v,(aop op ρ H nx).H,(aop op ρ H nx).nx)else none
theorem zAZ{H}:∀(l:List AV),Lend H allR l (l.map (frzV 9 H))
 |[]=>.nil
 |a::l=>.cons (zmk 9 a) (zAZ l)
theorem zDR{P}{call:zb2}(k:call.Sound P){f}{args}{H}{nx}{v}(h:zF2 call f args H=some v):zdx P f args H nx v:=by
 unfold zF2 at h
 cases c:args.all AV.flat with
 |true=>
  rw[c]at h;simp only[cond_true]at h;split at h
  .rename_i v0 j g e;cases h;refine zc ?_ c;exact(k f args [] 0 _ e).mono λv1 m nx1 b=>by cases b;exact⟨_,zmk 9 _,rfl⟩
  .cases h
 |false=>
  rw[c]at h;simp only[cond_false]at h;split at h
  .rename_i v0 j g e
   cases d:(frzV 9 j v0).scal with
   |false=>rw[d]at h;cases h
   |true=>rw[d]at h;cases h;refine zaW (D:=allR) ?_ (zAZ args) (.inl d);exact(k f _ [] 0 _ e).mono λv1 m nx1 b=>by cases b;exact⟨_,zmk 9 _,rfl⟩
  .cases h
theorem zvz{P}{call:zb2}(m:call.Sound P){fx}{op}{ρ}{H}{nx}{r}{k}(h:ztL P call op ρ H nx=some r)(d:k r.1 r.2.1 r.2.2):
  zcK P fx op ρ H nx k:=by
 have key:∀c:AOp,(bif zmo c ρ H then some ((aop c ρ H nx).v,(aop c ρ H nx).H,(aop c ρ H nx).nx)else none)=some r->znW fx (aop c ρ H nx) k:=λc h=>by
  cases g:zmo c ρ H with
  |false=>rw[g]at h;cases h
  |true=>rw[g]at h;simp only[cond_true,Ws]at h;subst h;exact⟨zHm g,λ_=>d⟩
 cases op with
 |call f args=>exact(m f _ H nx r h).mono λv q n e _=>by subst e;exact d
 |callq f args=>
  simp only[ztL]at h;split at h
  .rename_i v e;cases h;exact⟨v,zDR m e,d⟩
  .cases h
 |mnext x=>cases h
 |append2 s b x y=>cases h
 |isnil neg p x=>
  simp only[ztL]at h;simp only[zcK];split at h
  .rename_i b e;cases h;rw[e];exact d
  .cases h
 |callv x args=>
  simp only[ztL]at h;simp only[zcK];split at h
  .rename_i f o e
   cases j:zfd P f with
   |false=>rw[j]at h;cases h
   |true=>rw[j]at h;rw[e];exact⟨j,(m f _ H nx r h).mono λv q n e _=>by subst e;exact d⟩
  .cases h
 |_=>exact key _ h
abbrev St3:=Kn×AH×Nat
def oneX(P:Program)(call:zb2)(o:AOper)(K:Kn)(H:AH)(nx:Nat):Option St3 :=
 match o.guard with
 |
  none=>match ztL P call o.op K.get H nx with
  |some (v,c,b)=>some (setO K o.dst v,c,b)
  |none=>none
 |
  some (t,want)=>match grd want (K.get t)with
  |
   some true=>match ztL P call o.op K.get H nx with
   |some (v,c,b)=>some (setO K o.dst v,c,b)
   |none=>none
  |some false=>some (setO K o.dst (.tup []),H,nx)
  |none=>none
theorem zAy{P}{call:zb2}(n:call.Sound P){fx}{o}{K}{H}{nx}{r:St3}{k}(h:oneX P call o K H nx=some r)(g:k r.1 r.2.1 r.2.2):ExK P fx o K H nx k:=by
 unfold oneX at h;unfold ExK
 cases m:o.guard with
 |none=>
  rw[m]at h;simp only at h⊢;split at h
  .rename_i v s j e;cases h;exact zvz n e g
  .cases h
 |some p=>
  obtain⟨t,c⟩:=p;rw[m]at h;simp only at h⊢
  cases q:grd c (K.get t)with
  |none=>rw[q]at h;cases h
  |some b=>
   rw[q]at h
   cases b with
   |true=>
    simp only at h;split at h
    .rename_i v s j e;cases h;exact⟨λ_=>zvz n e g,λd=>(by cases d)⟩
    .cases h
   |false=>cases h;exact⟨λd=>(by cases d),λ_=>g⟩
def zE5(P:Program)(call:zb2):List AOper->Kn->AH->Nat->Option St3
 |[],K,H,nx=>some (K,H,nx)
 |
  o::os,K,H,nx=>match oneX P call o K H nx with
  |some (d,c,b)=>zE5 P call os d c b
  |none=>none
theorem zBb{P}{call:zb2}(c:call.Sound P){drop}{Q}:∀{b:List AOper}{K:Kn}{H:AH}{nx:Nat}{r:St3},zE5 P call b K H nx=some r->Q .normal (r.1.drop drop) r.2.1 r.2.2->aops P b drop Q K H nx
 |
  [],K,H,nx,r,h,hq=>by
  cases h;exact hq
 |
  o::b,K,H,nx,r,h,hq=>by
  simp only[zE5]at h;split at h
  .rename_i j g d e;exact zAy c e (zBb c h hq)
  .cases h
def zq3(P:Program)(call:zb2):DTree->Kn->AH->Nat->Option St3
 |.done,K,H,nx=>some (K,H,nx)
 |.stop,_,_,_=>none
 |
  .step o t,K,H,nx=>match oneX P call o K H nx with
  |some (d,c,b)=>zq3 P call t d c b
  |none=>none
 |
  .alt o t .stop,K,H,nx=>match oneX P call o K H nx with
  |some (d,c,b)=>zq3 P call t d c b
  |none=>none
 |.alt _ _ _,_,_,_=>none
theorem zt8{P}{call:zb2}(c:call.Sound P){drop}{Q}:∀{t:DTree}{K:Kn}{H:AH}{nx:Nat}{r:St3},zq3 P call t K H nx=some r->Q .normal (r.1.drop drop) r.2.1 r.2.2->awpT P t drop Q K H nx
 |
  .done,K,H,nx,r,h,b=>by
  cases h;exact b
 |.stop,_,_,_,_,h,_=>by cases h
 |
  .step o t,K,H,nx,r,h,b=>by
  simp only[zq3]at h;split at h
  .rename_i j g d e;exact zAy c e (zt8 c h b)
  .cases h
 |
  .alt o t .stop,K,H,nx,r,h,b=>by
  simp only[zq3]at h;split at h
  .rename_i j g d e;exact⟨zAy c e (zt8 c h b),trivial⟩
  .cases h
 |.alt _ _ .done,_,_,_,_,h,_=>by cases h
 |.alt _ _ (.step _ _),_,_,_,_,h,_=>by cases h
 |.alt _ _ (.alt _ _ _),_,_,_,_,h,_=>by cases h
abbrev Out:=AExit×Kn×AH×Nat
def retS(K:Kn)(H:AH):List ARet->Bool
 |[]=>true
 |.tmp _::r=>retS K H r
 |.cell t _ n::r=>zGr n (K.get t) H&&retS K H r
theorem zwf{K}{H}{nx}:∀{rs:List ARet},retS K H rs=true->zcb K H nx rs
 |[],_=>trivial
 |.tmp _::r,h=>zwf (rs:=r) h
 |
  .cell t a n::r,h=>by
  simp only[retS,Wc]at h;exact⟨zA8 h.1,zwf h.2⟩
section
variable {P:Program}{qf:FuncId->Nat->List Nat}{orc:zb2}
def QX(r:Out):QT:=λe K H nx=>(e,K,H,nx)=r
end
abbrev Sg:=Nat->Option Nat
def Sg.two(σ:Sg):Nat->Nat->Option (Nat×Nat×Nat):=λc b=>match σ c with
 |some r=>some (r,b,0)
 |none=>none
theorem Sg.two_some{σ:Sg}{r' q' r}(h:σ r'=some r):σ.two r' q'=some (r,q',0):=by unfold Sg.two;rw[h]
theorem Sg.of_two{σ:Sg}{r' q'}{x}(h:σ.two r' q'=some x):σ r'=some x.1/\x=(x.1,q',0):=by
 unfold Sg.two at h;split at h
 .rename_i r e;cases h;exact⟨e,rfl⟩
 .cases h
def isS(σ:Sg)(b r:Nat):Bool:=match σ b with
 |some x=>Wa x r
 |none=>false
theorem zre{σ:Sg}{r' r}(h:isS σ r' r=true):σ r'=some r:=by
 unfold isS at h;split at h
 .rename_i x e;rw[e,zm h]
 .cases h
def okB(σ:Sg):Nat->AV->Bool
 |0,_=>false
 |
  d+1,v=>match v with
  |.own r _ _ _ _=>isS σ r r
  |.ptr r _ _ _ _=>isS σ r r
  |.mp r _=>isS σ r r
  |.it r=>isS σ r r
  |.agg l=>l.all (okB σ d)
  |.tup l=>l.all (okB σ d)
  |.fn _ l=>l.all (okB σ d)
  |_=>true
def noD:Nat->Nat->Prop:=λ_ _=>False
theorem zGD{H H2}{σ:Sg}:∀(d:Nat)(v:AV),okB σ d v=true->Vw H H2 σ.two noD true v v
 |0,_,h=>by cases h
 |
  d+1,v,h=>by
  unfold okB at h;have inl:∀l:List AV,l.all (okB σ d)=true->∀(i:Nat)(a b:AV),l[i]?=some a->l[i]?=some b->Vw H H2 σ.two noD true a b:=λl j i a b c e=>by rw[c]at e;cases e;exact zGD d a (Wf.1 j a (WC c))
  cases v with
  |own r q g o n=>exact .own _ _ _ 0 _ _ _ _ g (Sg.two_some (zre h)) rfl
  |ptr r q g i f=>exact .ptr _ _ _ 0 _ _ _ _ g (Sg.two_some (zre h)) rfl
  |mp r q=>exact .mp _ _ _ _ (Sg.two_some (zre h))
  |it r=>exact .it _ _ (Sg.two_some (zre h))
  |agg l=>exact .agg _ _ _ rfl (inl l h)
  |tup l=>exact .tup _ _ _ rfl (inl l h)
  |fn f l=>exact .fn _ _ _ _ rfl (inl l h)
  |undef=>exact .undef _ _
  |int=>exact .int _ _ _
  |bool=>exact .bool _ _
  |str=>exact .str _ _
  |nilp=>exact .nilp _
  |iptr=>exact .iptr _ _ _
  |sl=>exact .sl _ _ _ _
  |nilsl=>exact .nilsl _
  |cut=>exact .cut _
  |nilfn=>exact .nilfn _
  |nilmp=>exact .nilmp _
def znt{α β:Type}(p:α->β->Bool):List α->List β->Bool
 |[],[]=>true
 |a::l,b::m=>p a b&&znt p l m
 |_,_=>false
theorem zeH{α β:Type}{p}:∀{l:List α}{m:List β},znt p l m=true->l.length=m.length
 |[],[],_=>rfl
 |
  a::l,b::m,h=>by
  simp only[znt,Wc]at h;rw[WN,WN,zeH h.2]
 |[],_::_,h=>by cases h
 |_::_,[],h=>by cases h
theorem zmW{α β:Type}{p}:∀{l:List α}{m:List β},znt p l m=true->∀(i:Nat)(a:α)(b:β),l[i]?=some a->m[i]?=some b->p a b=true
 |[],[],_,i,a,b,h,_=>by simp at h
 |
  a::l,b::m,h,i,x,y,hx,hy=>by
  simp only[znt,Wc]at h
  cases i with
  |zero=>simp at hx hy;subst hx hy;exact h.1
  |succ i=>exact zmW h.2 i x y (by simpa using hx) (by simpa using hy)
 |[],_::_,h,_,_,_,_,_=>by cases h
 |_::_,[],h,_,_,_,_,_=>by cases h
def zCC:IntKind->Nat
 |.i8=>0 |.i16=>1 |.i32=>2 |.i64=>3 |.u8=>4 |.u16=>5 |.u32=>6 |.u64=>7
theorem zyP{k b}(h:zCC k=zCC b):k=b:=by cases k<;>cases b<;>first|rfl|cases h
def beqI:Int->Int->Bool
 |.ofNat a,.ofNat b=>Wa a b
 |.negSucc a,.negSucc b=>Wa a b
 |_,_=>false
theorem zEL:∀{a b:Int},beqI a b=true->a=b
 |.ofNat a,.ofNat b,h=>by rw[zm h]
 |.negSucc a,.negSucc b,h=>by rw[zm (a:=a) (b:=b) h]
 |.ofNat _,.negSucc _,h=>by cases h
 |.negSucc _,.ofNat _,h=>by cases h
def beqU:List UInt8->List UInt8->Bool
 |[],[]=>true
 |a::l,b::m=>Wa a.toNat b.toNat&&beqU l m
 |_,_=>false
theorem zEA:∀{l m:List UInt8},beqU l m=true->l=m
 |[],[],_=>rfl
 |
  a::l,b::m,h=>by
  simp only[beqU,Wc]at h;rw[UInt8.toNat_inj.1 (zm h.1),zEA h.2]
 |[],_::_,h=>by cases h
 |_::_,[],h=>by cases h
def beqS(s t:ByteArray):Bool:=beqU s.data.toList t.data.toList
theorem zEC{s t:ByteArray}(h:beqS s t=true):s=t:=by obtain⟨⟨l⟩⟩:=s;obtain⟨⟨m⟩⟩:=t;have:=zEA h;simp only at this;rw[this]
def fnN:Fn->Option Nat
 |.func f=>some f
 |_=>none
theorem zJx{f g:Fn}{n}(h:fnN f=some n)(b:fnN g=some n):f=g:=by cases f<;>cases g<;>simp_all [fnN]
def vw0B:Nat->AV->AV->Bool
 |0,_,_=>false
 |
  d+1,a,b=>match a,b with
  |_,.undef=>true
  |.int k n,.int u e=>Wa (zCC k) (zCC u)&&beqI n e
  |.bool x,.bool y=>x == y
  |.str s,.str t=>beqS s t
  |.nilp,.nilp=>true
  |.nilsl,.nilsl=>true
  |.nilfn,.nilfn=>true
  |.nilmp,.nilmp=>true
  |.cut,.cut=>true
  |.sl o n f,.sl h e q=>Wa o h&&(Wa n e&&allB n λi=>allB o λj=>vw0B d (f i j) (q i j))
  |.iptr n c,.iptr e p=>Wa n e&&allB n λj=>vw0B d (c j) (p j)
  |.agg l,.agg m=>znt (vw0B d) l m
  |.tup l,.tup m=>znt (vw0B d) l m
  |.fn f l,.fn g m=>(match fnN f,fnN g with|some x,some y=>Wa x y|_,_=>false)&&znt (vw0B d) l m
  |_,_=>false
theorem ztY{H H2}{σ:Sg}:∀(d:Nat)(a b:AV),vw0B d a b=true->∀t,Vw H H2 σ.two noD t a b
 |0,_,_,h,_=>by cases h
 |
  d+1,a,b,h,t=>by
  have inl:∀l m:List AV,znt (vw0B d) l m=true->∀(i:Nat)(a b:AV),l[i]?=some a->m[i]?=some b->Vw H H2 σ.two noD t a b:=λl m s i a b c e=>
   ztY d a b (zmW s i a b c e) t
  unfold vw0B at h;split at h
  .exact .undef _ _
  .simp only[Wc]at h;rw[zyP (zm h.1),zEL h.2];exact .int _ _ _
  .rw[beq_iff_eq]at h;subst h;exact .bool _ _
  .rw[zEC h];exact .str _ _
  .exact .nilp _
  .exact .nilsl _
  .exact .nilfn _
  .exact .nilmp _
  .exact .cut _
  .simp only[Wc]at h;obtain⟨c,e,p⟩:=h;cases zm c;cases zm e;exact .slf _ _ _ _ _ λi j q o=>ztY d _ _ (zbD (zbD p q) o) false
  .simp only[Wc]at h;obtain⟨c,e⟩:=h;cases zm c;exact .iptrf _ _ _ _ λj o=>ztY d _ _ (zbD e o) false
  .exact .agg _ _ _ (zeH h) (inl _ _ h)
  .exact .tup _ _ _ (zeH h) (inl _ _ h)
  .rename_i f l g m;simp only[Wc]at h;obtain⟨c,e⟩:=h
   cases k:fnN f with
   |none=>rw[k]at c;cases c
   |some x=>
    cases n:fnN g with
    |none=>rw[k,n]at c;cases c
    |some y=>rw[k,n]at c;cases zm c;rw[zJx k n];exact .fn _ _ _ _ (zeH e) (inl _ _ e)
  .cases h
def vwB(σ:Sg):Nat->AV->AV->Bool
 |0,_,_=>false
 |
  d+1,a,b=>match a,b with
  |_,.undef=>true
  |.int k n,.int A e=>Wa (zCC k) (zCC A)&&beqI n e
  |.bool x,.bool y=>x == y
  |.str s,.str t=>beqS s t
  |.nilp,.nilp=>true
  |.nilsl,.nilsl=>true
  |.nilfn,.nilfn=>true
  |.nilmp,.nilmp=>true
  |.cut,.cut=>true
  |.own r q g o n,.own h j p u e=>isS σ h r&&(Wa q j&&(Wa g p&&(Wa o u&&Wa n e)))
  |.ptr r q g o n,.ptr h j p u e=>isS σ h r&&(Wa q j&&(Wa g p&&(Wa o u&&Wa n e)))
  |.mp r q,.mp h j=>isS σ h r&&Wa q j
  |.it r,.it h=>isS σ h r
  |.sl B n f,.sl v e z=>vw0B (d+1) (.sl B n f) (.sl v e z)
  |.iptr n c,.iptr e w=>vw0B (d+1) (.iptr n c) (.iptr e w)
  |.agg l,.agg m=>znt (vwB σ d) l m
  |.tup l,.tup m=>znt (vwB σ d) l m
  |.fn f l,.fn g m=>(match fnN f,fnN g with|some x,some y=>Wa x y|_,_=>false)&&znt (vwB σ d) l m
  |_,_=>false
theorem zBa{H H2}{σ:Sg}:∀(d:Nat)(a b:AV),vwB σ d a b=true->Vw H H2 σ.two noD true a b
 |0,_,_,h=>by cases h
 |
  d+1,a,b,h=>by
  have inl:∀l m:List AV,znt (vwB σ d) l m=true->∀(i:Nat)(a b:AV),l[i]?=some a->m[i]?=some b->Vw H H2 σ.two noD true a b:=λl m q i a b c e=>
   zBa d a b (zmW q i a b c e)
  unfold vwB at h;split at h
  .exact .undef _ _
  .simp only[Wc]at h;rw[zyP (zm h.1),zEL h.2];exact .int _ _ _
  .rw[beq_iff_eq]at h;subst h;exact .bool _ _
  .rw[zEC h];exact .str _ _
  .exact .nilp _
  .exact .nilsl _
  .exact .nilfn _
  .exact .nilmp _
  .exact .cut _
  .simp only[Wc]at h;obtain⟨c,e,n,o,p⟩:=h;cases zm e;cases zm n;cases zm o;cases zm p;exact .own _ _ _ 0 _ _ _ _ _ (Sg.two_some (zre c)) rfl
  .simp only[Wc]at h;obtain⟨c,e,n,o,p⟩:=h;cases zm e;cases zm n;cases zm o;cases zm p;exact .ptr _ _ _ 0 _ _ _ _ _ (Sg.two_some (zre c)) rfl
  .simp only[Wc]at h;cases zm h.2;exact .mp _ _ _ _ (Sg.two_some (zre h.1))
  .exact .it _ _ (Sg.two_some (zre h))
  .exact ztY _ _ _ h _
  .exact ztY _ _ _ h _
  .exact .agg _ _ _ (zeH h) (inl _ _ h)
  .exact .tup _ _ _ (zeH h) (inl _ _ h)
  .rename_i f l g m;simp only[Wc]at h;obtain⟨c,e⟩:=h
   cases j:fnN f with
   |none=>rw[j]at c;cases c
   |some x=>
    cases k:fnN g with
    |none=>rw[j,k]at c;cases c
    |some y=>rw[j,k]at c;cases zm c;rw[zJx j k];exact .fn _ _ _ _ (zeH e) (inl _ _ e)
  .cases h
def sgR(c cnt top nx2:Nat):Sg:=λb=>
 bif We c b&&Wd b (c+cnt)then some (b-c+top)else bif Wd b top&&Wd b nx2 then some b else none
def rowB(σ:Sg):List AV->List AV->Bool:=znt (vwB σ 30)
def zGo(σ:Sg)(nx2:Nat)(H:AH):AH->Bool
 |[]=>true
 |(d,o)::t=>(Wd d nx2&&(match o with
   |
    .row sz els2 g2=>match σ d with
    |
     some r=>match H.look r with
     |some (.row c b g)=>Wa sz c&&(Wa g g2&&znt (rowB σ) b els2)
     |_=>false
    |none=>false
   |_=>false))&&zGo σ nx2 H t
theorem zwn:∀{H:AH}{r:Nat}{o:AObj},H.look r=some o->(r,o)∈H
 |[],r,o,h=>by cases h
 |
  (j,u)::t,r,o,h=>by
  simp only[AH.look]at h
  cases b:Wa j r with
  |true=>rw[b]at h;cases h;rw[zm b];simp
  |false=>rw[b]at h;exact Wo _ (zwn h)
theorem zt2{σ:Sg}{nx2}{H}:∀{p:AH},zGo σ nx2 H p=true->∀{m:Nat}{o:AObj},(m,o)∈p->m<nx2/\∃n b g r c,o=.row n b g/\σ m=some r/\H.look r=some (.row n c g)/\znt (rowB σ) c b=true
 |[],_,_,_,k=>by simp at k
 |
  (j,u)::t,h,m,o,k=>by
  simp only[zGo,Wc]at h;obtain⟨⟨v,d⟩,h3⟩:=h;rcases Wx.1 k with e|k
  .cases e;refine⟨bltT v,?_⟩;split at d
   .rename_i n b z;split at d
    .rename_i r x;split at d
     .rename_i y c g w;simp only[Wc]at d;obtain⟨q,s,a3⟩:=d;cases zm q;cases zm s;exact⟨_,_,_,r,c,rfl,x,w,a3⟩
     .cases d
    .cases d
   .cases d
  .exact zt2 h3 k
theorem zGZ{B lo cnt top nx2}{H H2}(Z:B<=lo)(P:B<=top)(v:B<=nx2)(Q:lo+cnt<=nx2)(D:zGo (sgR lo cnt top nx2) nx2 H H2=true):View B H H2 nx2 (sgR lo cnt top nx2).two noD:=by
 have cases':∀{c r:Nat},sgR lo cnt top nx2 c=some r->(lo<=c/\c<lo+cnt/\r=c-lo+top)\/(c<top/\c<nx2/\r=c):=λ{c r} h=>by
  unfold sgR at h
  cases d:We lo c&&Wd c (lo+cnt)with
  |true=>rw[d]at h;simp only[Wc]at d;cases h;exact .inl ⟨bleT d.1,bltT d.2,rfl⟩
  |false=>
   rw[d]at h
   cases e:Wd c top&&Wd c nx2 with
   |true=>rw[e]at h;simp only[Wc]at e;cases h;exact .inr ⟨bltT e.1,bltT e.2,rfl⟩
   |false=>rw[e]at h;cases h
 refine⟨v,λr q h=>?_,?_,λ_ _ _ _ _ _ h=>h,?_,λr o h=>(zt2 D (zwn h)).1,λc y sz A Y h=>?_⟩
 .refine Sg.two_some ?_;unfold sgR
  have s:We lo r=false:=by
   cases d:We lo r with
   |false=>rfl
   |true=>have:=bleT d;omega
  have k:Wd r top=true:=by
   cases d:Wd r top with
   |true=>rfl
   |false=>
    have:=WO (λh:r<top=>by
     have:Wd r top=true:=by simpa [Nat.blt_eq]using h
     rw[d]at this
     cases this)
    omega
  have t:Wd r nx2=true:=by
   cases d:Wd r nx2 with
   |true=>rfl
   |false=>
    have:=WO (λh:r<nx2=>by
     have:Wd r nx2=true:=by simpa [Nat.blt_eq]using h
     rw[d]at this
     cases this)
    omega
  rw[s,k,t];rfl
 .intro r1 q1 r2 q2 r q V W s k;obtain⟨n,K⟩:=Sg.of_two s;obtain⟨L,M⟩:=Sg.of_two k;cases K;cases M;refine⟨?_,rfl⟩;rcases cases' n with ⟨F,z,I⟩|⟨F,z,I⟩<;>rcases cases' L with ⟨S,T,J⟩|⟨S,T,J⟩<;>simp only at I J<;>omega
 .intro c y x h;obtain⟨n,_⟩:=Sg.of_two h;rcases cases' n with ⟨F,z,_⟩|⟨_,z,_⟩<;>omega
 .unfold AH.get at h
  cases w:H2.look c with
  |none=>rw[w]at h;cases h
  |some o=>
   rw[w]at h;obtain⟨_,R,p,X,r,g,rfl,k,t,u⟩:=zt2 D (zwn w)
   cases y with
   |succ y=>cases h
   |zero=>
    cases h;refine .inl ⟨r,0,0,g,Sg.two_some k,?_,?_⟩
    .unfold AH.get;rw[t];rfl
    .refine⟨(zeH u).symm,λi U C=>?_⟩;have m:i<g.length:=by rw[zeH u];exact(List.getElem?_eq_some_iff.1 C).1
     have e:=zmW u i _ _ (Wn m) C;exact⟨_,Wn m,(zeH e).symm,λj a b N O=>zBa 30 a b (zmW e j a b N O)⟩
section
variable {P:Program}
theorem zEG{ops:Array Oper}{g:List AOper}{Qc:Exit->Act->World->Prop}(n:g.length=ops.size)(J:List Bool->Act->World->Prop)(c:∀l a w,l.length=g.length->J l a w->(∀i,i<g.length->zbQ (ops.toList.map zdF) l i=false)->Qc .normal a w)(d:∀l i a w,l.length=g.length->i<g.length->zbQ (ops.toList.map zdF) l i=true->J l a w->∀o,ops[i]?=some o ->
   if Region.wanted o (yielded ops a.tmps)then o.wp P a w (J (l.set i true)) Qc else J (l.set i true) (a.put o.dst undef) w) :
  ∀(b:Nat)(l:List Bool)(a:Act)(w:World),l.length=g.length->zhX l<=b->J l a w->wpAny P .any ops Qc b l.toArray a w
 |
  0,l,a,w,m,hc,e=>by
  have p:∀i,i<g.length->zbQ (ops.toList.map zdF) l i=false:=λi q=>by have:=zlp (l:=l) (by omega) i (by omega);unfold zbQ;rw[this];rfl
  refine⟨?_,c l a w m e p⟩;rw[List.eq_nil_iff_forall_not_mem];intro j e;obtain⟨t,k⟩:=(zkO (by omega)).1 e;rw[p j (by omega)]at k;cases k
 |
  b+1,l,a,w,m,hc,e=>by
  refine⟨λx=>c l a w m e λi q=>?_,λi q=>?_⟩
  .cases y:zbQ (ops.toList.map zdF) l i with
   |false=>rfl
   |true=>have:i∈Region.ready .any ops l.toArray:=(zkO (by omega)).2 ⟨by omega,y⟩;rw[x]at this;simp at this
  .obtain⟨t,k⟩:=(zkO (by omega)).1 q;have u:ops[i]?=some ops[i]:=Array.getElem?_eq_getElem t;have v:=znh (l:=l) (i:=i) (by omega) (zbe.1 k).1;have next:∀a w,J (l.set i true) a w->wpAny P .any ops Qc b (l.toArray.setIfInBounds i true) a w:=λa w e=>by have:=zEG n J c d b (l.set i true) a w (by simpa using m) (by omega) e;simpa using this
   have:=d l i a w m (by omega) k e ops[i] u;unfold wpOp;rw[u];simp only;split
   .rename_i s;rw[if_pos s]at this;exact .inl (Oper.wp_mono (λa w h=>next a w h) this)
   .rename_i s;rw[if_neg s]at this;exact next _ _ this
def valX(P:Program)(call:zb2)(o:AOper)(ρ:Nat->AV)(H:AH)(nx:Nat):Option (AV×AH×Nat) :=
 match o.guard with
 |none=>ztL P call o.op ρ H nx
 |
  some (t,want)=>match grd want (ρ t)with
  |some true=>ztL P call o.op ρ H nx
  |some false=>some (.tup [],H,nx)
  |none=>none
theorem zF6{call:zb2}(s:call.Sound P){o}{ρ ρ2}(m:∀t∈o.looks,ρ2 t=ρ t){H}{nx}{r}(h:valX P call o ρ H nx=some r){k}(j:k (upd ρ2 o.dst r.1) r.2.1 r.2.2):ExF P false o ρ2 H nx k:=by
 have body:ztL P call o.op ρ H nx=some r->zcK P false o.op ρ2 H nx (λv q g=>k (upd ρ2 o.dst v) q g):=λh=>by rw[zle (P:=P) (fx:=false) (ρ':=ρ) λt u=>m t (znk u)];exact zvz s h j
 unfold valX at h;unfold ExF
 cases e:o.guard with
 |none=>rw[e]at h;exact body h
 |some p=>
  obtain⟨t,c⟩:=p;rw[e]at h;simp only at h⊢;rw[m t (zkY e)]
  cases n:grd c (ρ t)with
  |none=>rw[n]at h;cases h
  |some b=>
   rw[n]at h
   cases b with
   |true=>exact⟨λ_=>body h,λd=>(by cases d)⟩
   |false=>cases h;exact⟨λd=>(by cases d),λ_=>j⟩
def seqV(P:Program)(call:zb2):List AOper->Kn->AH->Nat->Option (List (Nat×AV)×List (Nat×Nat)×Nat)
 |[],_,_,nx=>some ([],[],nx)
 |
  o::os,K,H,nx=>match valX P call o K.get H nx with
  |
   some (v,H',nx')=>match seqV P call os (setO K o.dst v) H' nx' with
   |
    some (vs,rs,top)=>some ((match o.dst with
    |some d=>(d,v)::vs
    |none=>vs),(nx,nx'-nx)::rs,top)
   |none=>none
  |none=>none
def zKx:List (List Nat)->List (List Nat)->List (List Nat)
 |b,[]=>b
 |b,c::r=>zKx (b++[(c++c.flatMap λd=>b.getD d []).eraseDups]) r
def renV(ρ:Nat->Nat):Nat->AV->AV
 |0,v=>v
 |
  d+1,v=>match v with
  |.ptr r q g i f=>.ptr (ρ r) q g i f
  |.own r q g off n=>.own (ρ r) q g off n
  |.fn f b=>.fn f (b.map (renV ρ d))
  |.agg l=>.agg (l.map (renV ρ d))
  |.tup l=>.tup (l.map (renV ρ d))
  |.mp r q=>.mp (ρ r) q
  |.it r=>.it (ρ r)
  |v=>v
def renH(ρ:Nat->Nat):AH->AH
 |[]=>[]
 |
  (r,o)::t=>(ρ r,match o with
  |.row e b g=>.row e (b.map λc=>c.map (renV ρ 30)) g
  |.fam e d=>.fam e d)::renH ρ t
abbrev STab:=List (List Nat×AH)
def zpN:STab->List Nat->AH
 |[],_=>[]
 |(S,H)::t,b=>bif beqL S b then H else zpN t b
def zxZ(ops:List AOper)(A:List (List Nat))(i:Nat):List Nat :=
 (Wk ops.length).filterMap λj=>bif Wa j i||memN (A.getD j []) i then(ops.getD j default).dst else none
def zzl(ops:List AOper)(A:List (List Nat))(b c:Kn)(i:Nat):Kn:=zaI c ((zxZ ops A i).map λt=>(t,b.get t))
def zKj(P:Program)(call:zb2)(ops:List AOper)(c:List Nat)(A:List (List Nat))(d e:Kn)(g:List (Nat×Nat))(top:Nat)(S:List Nat)(H:AH):List Nat->STab->List (List Nat)->Option (STab×List (List Nat))
 |[],tab,b=>some (tab,b)
 |
  i::r,tab,b=>
  bif zfg c A i S && !memS (tab.map (·.1)) (znx c i S)then
   match valX P call (ops.getD i default) (zzl ops A d e i).get H top with
   |some (_,h,_)=>zKj P call ops c A d e g top S H r (tab++[(znx c i S,renH (λx=>bif Wd x top then x else x-top+(g.getD i (0,0)).1) h)]) (b++[znx c i S])
   |none=>none
  else zKj P call ops c A d e g top S H r tab b
def growT(P:Program)(call:zb2)(ops:List AOper)(d:List Nat)(A:List (List Nat))(e g:Kn)(h:List (Nat×Nat))(top:Nat):Nat->List (List Nat)->STab->Option STab
 |0,_,tab=>some tab
 |_+1,[],tab=>some tab
 |
  n+1,S::todo,tab=>match zKj P call ops d A e g h top S (zpN tab S) d tab todo with
  |some (c,b)=>growT P call ops d A e g h top n b c
  |none=>none
def idS:Sg:=λr=>some r
def dstB(σ:Sg)(b:Kn):Option Nat->AV->Bool
 |none,_=>true
 |some d,v=>vwB σ 30 v (b.get d)
def chkE(P:Program)(call:zb2)(ops:List AOper)(A:List (List Nat))(d c:Kn)(b:List (Nat×Nat))(nx top:Nat)(tab:STab)(e:Nat×List Nat×List Nat):Bool :=
 match valX P call (ops.getD e.1 default) (zzl ops A d c e.1).get (zpN tab e.2.1) top with
 |
  some (v,H',_)=>
  bif (ops.getD e.1 default).fixed then dstB idS c (ops.getD e.1 default).dst v
  else We nx (b.getD e.1 (0,0)).1&&(We ((b.getD e.1 (0,0)).1+(b.getD e.1 (0,0)).2) top &&
   (zGo (sgR (b.getD e.1 (0,0)).1 (b.getD e.1 (0,0)).2 top top) top H' (zpN tab e.2.2) &&
   (dstB (sgR (b.getD e.1 (0,0)).1 (b.getD e.1 (0,0)).2 top top) c (ops.getD e.1 default).dst v &&
   ((c.all λp=>memN (zxZ ops A e.1) p.1||okB (sgR (b.getD e.1 (0,0)).1 (b.getD e.1 (0,0)).2 top top) 30 p.2) &&
   d.all λp=>okB (sgR (b.getD e.1 (0,0)).1 (b.getD e.1 (0,0)).2 top top) 30 p.2))))
 |none=>false
def planX(ops:List AOper)(b:List Nat)(A:List (List Nat))(St:List (List Nat)):Plan :=
 (Wk ops.length).flatMap λi=>
  bif memN b i then(St.filter (zfg b A i)).map λS=>(i,S,znx b i S)
  else bif (ops.getD i default).sees then(St.filter (zfg b A i)).map λS=>(i,S,S)
  else((St.filter (zfg b A i)).take 1).map λS=>(i,S,S)
structure DR where
 Kf:Kn
 H:AH
 top:Nat
def zKg(ops:List AOper)(A:List (List Nat))(i t:Nat):Bool :=
 ((A.getD i []).any λj=>match (ops.getD j default).dst with|some d=>Wa d t|none=>false) ||
 allB ops.length λj=>match (ops.getD j default).dst with|some d=> !Nat.beq d t||(Wa j i||memN (A.getD j []) i)|none=>true
def zsI(o:AOper):AOper:={ o with op:=bif o.fixed && !o.sees then .mov (.c .undef)else .mknil 0,guard:=none }
def zEO(ops:List AOper)(b:List (List Nat))(d:List Nat)(A:List (List Nat))(St:List (List Nat))(c:Plan)(e:List Nat):Bool :=
 zAY (ops.map zsI) b d A St c e
def drawR(P:Program)(call:zb2)(ops:List AOper)(b:List (List Nat))(c:List Nat)(A:List (List Nat))(d:List (Nat×AV))(e:List (Nat×Nat))(tab:STab)(K:Kn)(nx top:Nat):Option (Kn×AH×Nat) :=
 bif We nx top&&(zEO ops b c A (tab.map (·.1)) (planX ops c A (tab.map (·.1))) (d.map (·.1))&&((allB ops.length λi=>(ops.getD i default).looks.all (zKg ops A i))&&(planX ops c A (tab.map (·.1))).all (chkE P call ops A K (zaI K d) e nx top tab)))
 then some (zaI K d,zpN tab c,top)else none
def zLj(P:Program)(call:zb2)(ops:List AOper)(b:List (List Nat))(K:Kn)(H:AH)(nx:Nat):Option (Kn×AH×Nat) :=
 match seqV P call ops K H nx with
 |
  some (vs,rs,top)=>
  match growT P call ops ((Wk ops.length).filter λi=> !(ops.getD i default).fixed) (zKx [] b) K (zaI K vs) rs top 5000 [[]] [([],H)]with
  |some c=>drawR P call ops b ((Wk ops.length).filter λi=> !(ops.getD i default).fixed) (zKx [] b) vs rs (([],H)::c.tail) K nx top
  |none=>none
 |none=>none
theorem zIP(H)(ι):ze7 H idS.two ι=ι:=by funext r q g;simp[ze7,Sg.two,idS]
theorem vr_id{w}{L}{ι}{H}{nx}(rel:RelH w L ι H nx){a b}(h:Vw H H idS.two noD true a b){v}(c:VR w (Lt L ι H) ι v a):VR w (Lt L ι H) ι v b:=by have:=h.sound rel (M:=Lt L ι H) (λ_ h=>h) (λ_ _ _ _ _ _ h=>h.elim) v c;rw[zIP]at this;exact this
theorem RelH.up{w}{L}{ι}{H}{nx nx'}(rel:RelH w L ι H nx)(h:nx<=nx'):RelH w L ι H nx' :=
 ⟨rel.row,rel.apart,rel.out,λr q g l b=>WI (rel.idx r q g l b) h,λr o b=>WI (rel.dom r o b) h,rel.gen,rel.Lsz⟩
def vsD(ops:List AOper)(b:Kn)(l:List Bool):List (Nat×AV):=(Wk ops.length).filterMap λi=>bif getB l i then(ops.getD i default).dst.map λd=>(d,b.get d)else none
theorem zy3{ops}{Kf}{l}{p}:p∈vsD ops Kf l↔∃i,i<ops.length/\getB l i=true/\(ops.getD i default).dst=some p.1/\p.2=Kf.get p.1:=by
 unfold vsD;rw[WJ];constructor
 .rintro⟨i,c,h⟩;refine⟨i,Wl.1 c,?_⟩
  cases b:getB l i with
  |false=>rw[b]at h;cases h
  |true=>rw[b]at h;obtain⟨d,hd,rfl⟩:=WB.1 h;exact⟨rfl,hd,rfl⟩
 .rintro⟨i,c,b,h,e⟩;exact⟨i,Wl.2 c,by rw[b,cond_true,h,Option.map_some,<-e]⟩
theorem zqs:∀ {e:List (Nat×AV)}{K:Kn}{t:Nat}{v:AV},(∀p∈e,p.1=t->p.2=v)->t∈e.map (·.1)->(zaI K e).get t=v
 |[],_,_,_,_,h=>by simp at h
 |
  (d,u)::r,K,t,v,h,b=>by
  rw[zaI];by_cases c:t∈r.map (·.1)
  .exact zqs (λp g=>h p (Wo _ g)) c
  .rw[zgK c,Xb];simp only[List.map_cons,Wx]at b;rcases b with b|b
   .subst b;rw[if_pos rfl];exact h (t,u) (by simp) rfl
   .exact absurd b c
def zmh(ops:List AOper)(b c:Kn)(l:List Bool):Kn:=zaI b (vsD ops c l)
theorem zkC{ops}{K0 Kf}{l}{i t}(c:i<ops.length)(b:getB l i=true)(hd:(ops.getD i default).dst=some t):(zmh ops K0 Kf l).get t=Kf.get t:=by unfold zmh;refine zqs (λp d e=>?_) (Wp.2 ⟨(t,Kf.get t),zy3.2 ⟨i,c,b,hd,rfl⟩,rfl⟩);obtain⟨_,_,_,_,h⟩:=zy3.1 d;rw[h,e]
theorem znl{ops}{K0 Kf}{l}{t}(h:∀i,i<ops.length->getB l i=true->(ops.getD i default).dst≠some t):(zmh ops K0 Kf l).get t=K0.get t:=by
 unfold zmh;refine zgK λd=>?_
 obtain⟨p,g,e⟩:=Wp.1 d;obtain⟨i,c,b,hd,_⟩:=zy3.1 g;exact h i c b (by rw[hd,e])
theorem zs2{ops}{A}{i t}(h:t∈zxZ ops A i):∃j,j<ops.length/\(j=i\/i∈A.getD j [])/\(ops.getD j default).dst=some t:=by
 unfold zxZ at h;obtain⟨j,c,h⟩:=WJ.1 h;refine⟨j,Wl.1 c,?_⟩
 cases b:Wa j i||memN (A.getD j []) i with
 |false=>rw[b]at h;cases h
 |true=>
  rw[b]at h;refine⟨?_,h⟩;rcases Wr.1 b with b|b
  .exact .inl (zm b)
  .exact .inr ((zar _ _).1 b)
theorem Kn.get_mem{K:Kn}{t:Nat}:K.get t=.undef\/(t,K.get t)∈K:=by
 induction K with
 |nil=>exact .inl rfl
 |cons p r c=>
  obtain⟨j,u⟩:=p;simp only[Xa]
  cases b:Wa j t with
  |true=>rw[zm b];exact .inr (by simp)
  |false=>
   rcases c with h|h
   .exact .inl h
   .exact .inr (Wo _ h)
theorem zE9{ops}{A}{K0 Kf}{i t}(h:t∈zxZ ops A i):(zzl ops A K0 Kf i).get t=K0.get t:=by
 unfold zzl;refine zqs (λp b e=>?_) ?_
 .obtain⟨x,_,rfl⟩:=Wp.1 b;simp only at e;subst e;rfl
 .rw[List.map_map];exact Wp.2 ⟨t,h,rfl⟩
theorem zBE{ops}{A}{K0 Kf}{i t}(h:t∉zxZ ops A i):(zzl ops A K0 Kf i).get t=Kf.get t:=by
 unfold zzl;refine zgK λb=>?_
 rw[List.map_map]at b;obtain⟨x,c,rfl⟩:=Wp.1 b;exact h c
theorem zI8{ops}{A}{i j t}(b:j<ops.length)(h:j=i\/i∈A.getD j [])(hd:(ops.getD j default).dst=some t):t∈zxZ ops A i:=by
 unfold zxZ;refine WJ.2 ⟨j,Wl.2 b,?_⟩
 have:(Wa j i||memN (A.getD j []) i)=true:=by
  rcases h with h|h
  .rw[h,zbP];rfl
  .rw[(zar _ _).2 h,Bool.or_true]
 rw[this];exact hd
structure DOk(ops:List AOper)(deps:List (List Nat))(Ls:List Nat)(A:List (List Nat))(St:List (List Nat))(plan:Plan)(ks:List Nat):Prop where
 low:∀(i:Nat),i<ops.length->∀j∈deps.getD i [],j<i
 clo:∀(i:Nat),i<ops.length->∀j∈A.getD i [],j∈deps.getD i []\/∃d∈deps.getD i [],j∈A.getD d []
 one:∀(i j d:Nat),i<ops.length->j<ops.length->(ops.getD i default).dst=some d->(ops.getD j default).dst=some d->i=j
 keys:∀k∈ks,∃j,j<ops.length/\(ops.getD j default).dst=some k
 look:∀(i:Nat),i<ops.length->∀t∈(ops.getD i default).looks,(∃j∈A.getD i [],(ops.getD j default).dst=some t)\/∀j,j<ops.length->(ops.getD j default).dst=some t->j=i\/i∈A.getD j []
 lin:∀i∈Ls,i<ops.length
 st0:[]∈St
 stc:∀S∈St,∀i∈Ls,zfg Ls A i S=true->znx Ls i S∈St
 plan:∀(i:Nat),i<ops.length->((ops.getD i default).fixed=true/\(ops.getD i default).sees=false/\i∉Ls/\anyP plan i=true) \/
  (i∉Ls/\∀S∈St,zfg Ls A i S=true->memP plan i S S=true)\/(i∈Ls/\∀S∈St,zfg Ls A i S=true->memP plan i S (znx Ls i S)=true)
theorem zu7{ops:List AOper}{i:Nat}(b:i<ops.length):(ops.map zsI).getD i default=zsI (ops.getD i default):=by rw[Wg,Wt,Wg,Wn b];rfl
theorem zoS{ops:List AOper}{i:Nat}:((ops.map zsI).getD i default).dst=(ops.getD i default).dst:=by
 by_cases b:i<ops.length
 .rw[zu7 b];rfl
 .rw[Wg,Wz (by rw[WK];omega),Wg,Wz (by omega)]
theorem dok_of{ops}{deps}{Ls}{A}{St}{plan}{ks}(h:zEO ops deps Ls A St plan ks=true)(m:(allB ops.length λi=>(ops.getD i default).looks.all (zKg ops A i))=true):DOk ops deps Ls A St plan ks:=by
 have ok:=zx6 h;have y:(ops.map zsI).length=ops.length:=WK _;refine⟨λi c=>ok.low i (by omega),λi c=>ok.clo i (by omega),λi j d c g b m=>ok.one i j d (by omega) (by omega) (by rw[zoS];exact b) (by rw[zoS];exact m),λk u=>?_,λi c t x=>?_,λi c=>by have:=ok.lin i c;omega,ok.st0,ok.stc,λi c=>?_⟩
 .obtain⟨o,v,hd⟩:=ok.keys k u;obtain⟨j,g,q⟩:=WH.1 v;refine⟨j,by omega,?_⟩;rw[<-zoS,Wg,Wn g,q];exact hd
 .have:=Wf.1 (zbD m c) t x;unfold zKg at this;rcases Wr.1 this with this|this
  .obtain⟨j,g,hd⟩:=Ww.1 this;refine .inl ⟨j,g,?_⟩
   cases e:(ops.getD j default).dst with
   |none=>rw[e]at hd;cases hd
   |some d=>rw[e]at hd;rw[zm hd]
  .refine .inr λj g hd=>?_
   have:=zbD this g;rw[hd]at this;simp only[zbP,Bool.not_true,WG,Wm]at this;rcases this with this|this
   .exact .inl (zm this)
   .exact .inr ((zar _ _).1 this)
 .rcases ok.plan i (by omega)with ⟨b,m,n,p⟩|h|h
  .rw[zu7 c]at b m;refine .inl ⟨?_,?_,n,p⟩
   .cases s:(ops.getD i default).fixed with
    |true=>rfl
    |false=>unfold zsI at b;rw[s]at b;cases b
   .cases w:(ops.getD i default).sees with
    |false=>rfl
    |true=>unfold zsI at b;rw[w,Bool.not_true,Bool.and_false]at b;cases b
  .exact .inr (.inl h)
  .exact .inr (.inr h)
theorem zpl{ops}{b}{Ls}{A}{St}{plan}{ks}(ok:DOk ops b Ls A St plan ks){l}(m:∀i,i<ops.length->getB l i=true->∀j∈b.getD i [],getB l j=true):∀(i:Nat),i<ops.length->(∀j∈b.getD i [],getB l j=true)->∀j∈A.getD i [],getB l j=true:=by
 intro i
 induction i using Wy with
 |_ i ih=>
  intro g hd j n;rcases ok.clo i g j n with h|⟨d,e,k⟩
  .exact hd j h
  .have c:=ok.low i g d e;exact ih d c (by omega) (m d (by omega) (hd d e)) j k
structure DX(P:Program)(call:zb2)(ops:List AOper)(deps:List (List Nat))(Ls:List Nat)(A:List (List Nat))(St:List (List Nat))(plan:Plan)(ks:List Nat)(K0 Kf:Kn)(rs:List (Nat×Nat))(nx top:Nat)(tab:STab):Prop where
 ok:DOk ops deps Ls A St plan ks
 chk:∀e∈plan,chkE P call ops A K0 Kf rs nx top tab e=true
 lsF:∀i,i∈Ls->(ops.getD i default).fixed=false
 lsT:∀i,i<ops.length->i∉Ls->(ops.getD i default).fixed=true
theorem zBi:∀{l:Plan}{a:Nat},anyP l a=true->∃S,(a,S,S)∈l
 |[],_,h=>by cases h
 |
  (i,k,k')::r,a,h=>by
  simp only[anyP,Wm,Wc]at h;rcases h with ⟨b,c⟩|h
  .rw[<-zm b,<-zgW c];exact⟨k,by simp⟩
  .obtain⟨S,d⟩:=zBi h;exact⟨S,Wo _ d⟩
theorem zwi:∀{l:Plan}{a:Nat}{b c:List Nat},memP l a b c=true->(a,b,c)∈l
 |[],_,_,_,h=>by cases h
 |
  (i,k,k')::r,a,b,c,h=>by
  simp only[memP,Wm,Wc]at h;rcases h with ⟨d,e,g⟩|h
  .rw[<-zm d,<-zgW e,<-zgW g];simp
  .exact Wo _ (zwi h)
theorem zAx{K}{d}{v}{t}(h:d≠some t):(setO K d v).get t=K.get t:=by rw[zpm];exact zo8 h
theorem zz7{K}{d}{v}{t}(h:d=some t):(setO K d v).get t=v:=by subst h;simp[setO,Xb]
theorem upd_eq{ρ}{d}{v}{t}(h:d=some t):upd ρ d v t=v:=by subst h;simp[upd]
theorem DX.sound{call:zb2}(hs:call.Sound P){nt n0}{w0}{L}{ι0}{H0}{B}(base:RelH w0 L ι0 H0 B){id}{ops}{b}(hlen:b.length=ops.size)(hrel:∀(i:Nat)(o:Oper)(ao:AOper),ops.toList[i]?=some o->b[i]?=some ao->OpRel P nt ops o ao)(hfol:P.follows .mixedOrders=true){Ls}{A St}{plan}{vs}{rs}{tab:STab}{K}{H}{nx top}(htop:nx<=top)(htab:zpN tab []=H)(dx:DX P call b (ops.toList.map zdF) Ls A St plan (vs.map (·.1)) K (zaI K vs) rs nx top tab){w}{ι}{a:Act}(s:In nt n0 w0 L ι0 H0 B w ι K.get H nx a){Q}(hq:Q .normal (zaI K vs) (zpN tab Ls) top) :
  (Code.region id ops true).wp P (QQ nt n0 w0 L ι0 H0 B Q) a w:=by
 obtain⟨ok,hchk,hlsF,hlsT⟩:=dx;have hBnx:=s.le;refine wp_region_any hfol ?_
 have main:=zEG (P:=P) (Qc:=QQ nt n0 w0 L ι0 H0 B Q) hlen (λl a w=>∃ι,In nt n0 w0 L ι0 H0 B w ι (zmh b K (zaI K vs) l).get (zpN tab (Ls.filter (getB l))) top a/\(∀i,i<b.length->getB l i=true->∀j∈(ops.toList.map zdF).getD i [],getB l j=true)/\Ls.filter (getB l)∈St) ?_ ?_ b.length (Wj b.length false) a { w with drawn:=w.drawn+1 } (by simp) (by
  have:∀n,zhX (Wj n false)=n:=λn=>by
   induction n with
   |zero=>rfl
   |succ n ih=>rw[WL,zhX,ih];simp;omega
  rw[this]
  exact Nat.le_refl _) ?_
 .rw[hlen]at main;simpa using main
 .rintro l a w hl ⟨ι,s,g,V⟩ hnone
  have Z:∀i,i<b.length->getB l i=true:=by
   intro i
   induction i using Wy with
   |_ i ih=>
    intro x;have:=hnone i x
    cases k:getB l i with
    |true=>rfl
    |false=>have hr:zbQ (ops.toList.map zdF) l i=true:=zbe.2 ⟨k,λj d=>ih j (ok.low i x j d) (by have:=ok.low i x j d;omega)⟩;rw[this]at hr;cases hr
  have hcnt:Ls.filter (getB l)=Ls:=WM.2 (λm I=>Z m (ok.lin m I));rw[hcnt]at s
  have e:(zmh b K (zaI K vs) l).get=(zaI K vs).get:=funext λt=>by
   by_cases h:∃i,i<b.length/\(b.getD i default).dst=some t
   .obtain⟨i,x,hd⟩:=h;exact zkC x (Z i x) hd
   .rw[znl λi x _ hd=>h ⟨i,x,hd⟩];exact(zgK λhk=>h (ok.keys t hk)).symm
  rw[e]at s;exact⟨ι,_,_,_,s,hq⟩
 .rintro l i a w hl x hr ⟨ι,s,g,V⟩ o ho;obtain⟨C,M⟩:=zbe.1 hr;have hA:=zpl ok g i x M;have hlt:∀j,getB l j=true->j<b.length:=λj d=>by apply Xe;intro hcon;unfold getB at d;rw[Wg,Wz (by omega)]at d;cases d
  have hgetD:∀{t:Nat}{o:AOper},o∈b->o.dst=some t->∃j,j<b.length/\(b.getD j default).dst=some t:=λ{t o} ho hd=>by obtain⟨j,d,he⟩:=WH.1 ho;exact⟨j,d,by rw[Wg,Wn d,he];exact hd⟩
  have z:zfg Ls A i (Ls.filter (getB l))=true:=by
   unfold zfg;simp only[Wc,WE,Wf,Wm];refine⟨?_,λm I=>?_,λm I=>?_⟩
   .cases k:memN (Ls.filter (getB l)) i with
    |false=>rfl
    |true=>have:=(Wi.1 ((zar _ _).1 k)).2;rw[C]at this;cases this
   .cases k:memN (A.getD i []) m with
    |false=>exact .inl rfl
    |true=>exact .inr ((zar _ _).2 (Wi.2 ⟨I,hA m ((zar _ _).1 k)⟩))
   .obtain⟨hmL,hml⟩:=Wi.1 I
    cases k:memN (A.getD m []) i with
    |false=>rfl
    |true=>have:=zpl ok g m (ok.lin m hmL) (g m (ok.lin m hmL) hml) i ((zar _ _).1 k);rw[C]at this;cases this
  have hlk:∀t∈(b.getD i default).looks,(zmh b K (zaI K vs) l).get t=(zzl b A K (zaI K vs) i).get t:=λt ht=>by
   rcases ok.look i x t ht with ⟨j,d,hd⟩|h
   .have p:=hA j d;have Y:=hlt j p;rw[zkC Y p hd,zBE λX=>?_];obtain⟨j',hj',q,hd'⟩:=zs2 X;have:=ok.one j' j t hj' Y hd' hd;subst this;rcases q with q|q
    .subst q;rw[C]at p;cases p
    .have:=zpl ok g j' Y (g j' Y p) i q;rw[C]at this;cases this
   .rw[znl λj d k hd=>?_]
    .by_cases he:∃j,j<b.length/\(b.getD j default).dst=some t
     .obtain⟨j,d,hd⟩:=he;rw[zE9 (zI8 d (h j d hd) hd)]
     .rw[zBE λX=>(by obtain⟨j,d,_,hd⟩:=zs2 X;exact he ⟨j,d,hd⟩)];exact(zgK λhk=>he (ok.keys t hk)).symm
    .rcases h j d hd with q|q
     .subst q;rw[C]at k;cases k
     .have:=zpl ok g j d (g j d k) i q;rw[C]at this;cases this
  have J:∀j,j<b.length->getB (l.set i true) j=true->∀m∈(ops.toList.map zdF).getD j [],getB (l.set i true) m=true:=by
   intro j d hjl m I;rw[zfH (by omega)]at hjl⊢;by_cases F:m=i
   .rw[if_pos F]
   .rw[if_neg F];by_cases y:j=i
    .subst y;exact M m I
    .rw[if_neg y]at hjl;exact g j d hjl m I
  have U:∀j,getB (l.set i true) j=if j=i then true else getB l j:=λj=>zfH (by omega)
  have O:∀t,(b.getD i default).dst≠some t->(zmh b K (zaI K vs) (l.set i true)).get t=(zmh b K (zaI K vs) l).get t:=λt ht=>by
   by_cases h:∃j,j<b.length/\getB l j=true/\(b.getD j default).dst=some t
   .obtain⟨j,d,k,hd⟩:=h;rw[zkC d k hd,zkC d (by rw[U];split<;>first|rfl|exact k) hd]
   .rw[znl λj d k hd=>h ⟨j,d,k,hd⟩,znl λj d k hd=>?_];rw[U]at k;by_cases e:j=i
    .subst e;exact ht hd
    .rw[if_neg e]at k;exact h ⟨j,d,k,hd⟩
  have T:∀t,(b.getD i default).dst=some t->(zmh b K (zaI K vs) (l.set i true)).get t=(zaI K vs).get t:=λt ht=>zkC x (by rw[U,if_pos rfl]) ht
  have W:i∉Ls->Ls.filter (getB (l.set i true))=Ls.filter (getB l):=λu=>by
   refine WA λm I=>?_
   rw[zfH (by omega),if_neg (λe:m=i=>u (by rw[<-e];exact I))]
  have hro:=hrel i o (b.getD i default) (by simp[ho]) (by rw[Wg,Wn x];rfl)
  have entry:∃e∈plan,e.1=i/\((i∉Ls/\((b.getD i default).sees=false\/e.2.1=Ls.filter (getB l)))\/(i∈Ls/\e.2.1=Ls.filter (getB l)/\e.2.2=Ls.filter (getB (l.set i true))/\Ls.filter (getB (l.set i true))∈St)):=by
   rcases ok.plan i x with ⟨X,R,u,ha⟩|⟨u,hk⟩|⟨c,hk⟩
   .obtain⟨S,hS⟩:=zBi ha;exact⟨_,hS,rfl,.inl ⟨u,.inl R⟩⟩
   .exact⟨_,zwi (hk _ V z),rfl,.inl ⟨u,.inr rfl⟩⟩
   .have hnx:znx Ls i (Ls.filter (getB l))=Ls.filter (getB (l.set i true)):=by
     unfold znx;refine WA λm I=>?_
     rw[zfH (by omega)];by_cases F:m=i
     .subst F;simp[zbP]
     .rw[if_neg F,zbc F,WG]
      cases k:getB l m with
      |true=>exact(zar _ _).2 (Wi.2 ⟨I,k⟩)
      |false=>
       cases hb2:memN (Ls.filter (getB l)) m with
       |false=>rfl
       |true=>have:=(Wi.1 ((zar _ _).1 hb2)).2;rw[k]at this;cases this
    have h2:=ok.stc _ V i c z;rw[hnx]at h2;exact⟨_,zwi (hk _ V z),rfl,.inr ⟨c,rfl,hnx,h2⟩⟩
  obtain⟨e,hep,he1,hcase⟩:=entry;have q:=hchk e hep;unfold chkE at q;rw[he1]at q;split at q
  .rename_i v H' nx' hv;rcases hcase with ⟨u,hsee⟩|⟨hil,hS,hS',hst'⟩
   .have X:=hlsT i x u;rw[X]at q;simp only[cond_true]at q;have hex0:ExF P false (b.getD i default) (zmh b K (zaI K vs) l).get (zpN tab e.2.1) top (λD _ _=>D=upd (zmh b K (zaI K vs) l).get (b.getD i default).dst v):=zF6 hs hlk hv rfl;obtain⟨v1,hy,hv1⟩:=zo5 X hex0
    have hy':Yld P (b.getD i default) (zmh b K (zaI K vs) l).get (zpN tab (Ls.filter (getB l))) top v1:=by
     rcases hsee with R|R
     .exact zwJ R hy
     .rw[<-R];exact hy
    have hex:ExF P false (b.getD i default) (zmh b K (zaI K vs) l).get (zpN tab (Ls.filter (getB l))) top (λD H2 nx2=>D=upd (zmh b K (zaI K vs) l).get (b.getD i default).dst v/\H2=zpN tab (Ls.filter (getB l))/\nx2=top):=zmE hy' ⟨hv1,rfl,rfl⟩;refine zp0 hro s hex λw' ι' D H2 nx2 a' c ⟨e1,e2,e3⟩=>?_
    subst e1 e2 e3;refine⟨ι',?_,J,by rw[W u];exact V⟩;rw[W u];refine⟨c.size,c.defers,c.st,c.le,λt=>?_⟩;by_cases hd:(b.getD i default).dst=some t
    .have h1:=c.kn t;rw[upd_eq hd]at h1;rw[hd]at q;rw[T t hd];exact vr_id c.st.rel (zBa 30 _ _ q) h1
    .have h1:=c.kn t;rw[zo8 hd]at h1;rw[O t hd];exact h1
   .have X:=hlsF i hil;rw[X]at q;simp only[cond_false,Wc]at q;obtain⟨hc1,hc2,hc3,hc4,hc5,hc6⟩:=q;rw[hS]at hv;rw[hS']at hc3;have hex:ExF P false (b.getD i default) (zmh b K (zaI K vs) l).get (zpN tab (Ls.filter (getB l))) top (λD H2 nx2=>D=upd (zmh b K (zaI K vs) l).get (b.getD i default).dst v/\H2=H'/\nx2=nx'):=zF6 hs hlk hv ⟨rfl,rfl,rfl⟩;refine zp0 hro s hex λw' ι' D H2 nx2 a' c ⟨e1,e2,e3⟩=>?_
    subst e1 e2 e3;have hB:=s.le;have hlo:=bleT hc1;have hle:=bleT hc2;have vw:=zGZ (B:=B) (top:=top) (nx2:=top) (H:=H2) (H2:=zpN tab (Ls.filter (getB (l.set i true)))) (Nat.le_trans hBnx hlo) hB hB hle hc3;rw[<-zpm]at c
    obtain⟨ι2,hin2⟩:=c.ent base (K2:=zmh b K (zaI K vs) (l.set i true)) (Ent.view _ _ vw λt=>by
     by_cases hd:(b.getD i default).dst=some t
     .rw[zz7 hd,T t hd];rw[hd]at hc4;exact zBa 30 _ _ hc4
     .rw[zAx hd,O t hd];by_cases h:∃j,j<b.length/\getB l j=true/\(b.getD j default).dst=some t
      .obtain⟨j,d,k,N⟩:=h;rw[zkC d k N];rcases Kn.get_mem (K:=zaI K vs) (t:=t)with h|h
       .rw[h];exact .undef _ _
       .have:=Wf.1 hc5 _ h;rcases Wr.1 this with h2|h2
        .exfalso;obtain⟨j',hj',y,hdj'⟩:=zs2 ((zar _ _).1 h2);have:=ok.one j' j t hj' d hdj' N;subst this;rcases y with y|y
         .subst y;exact hd N
         .have:=zpl ok g j' d (g j' d k) i y;rw[C]at this;cases this
        .exact zGD 30 _ h2
      .rw[znl λj d k N=>h ⟨j,d,k,N⟩];rcases Kn.get_mem (K:=K) (t:=t)with h|h
       .rw[h];exact .undef _ _
       .exact zGD 30 _ (Wf.1 hc6 _ h))
    exact⟨ι2,hin2,J,hst'⟩
  .cases q
 .refine⟨ι,?_,λi x h=>?_,?_⟩
  .have h0:Ls.filter (getB (Wj b.length false))=[]:=by
    rw[WF];intro i _;have:getB (Wj b.length false) i=false:=by unfold getB;rw[Wg,Wu];split<;>rfl
    rw[this];simp
   rw[h0,htab];have hd:=s.drewW;refine⟨hd.size,hd.defers,⟨hd.st.ext,hd.st.inj,hd.st.rel.up htop,hd.st.lv⟩,Nat.le_trans hd.le htop,λt=>?_⟩;rw[znl λi x k _=>?_]
   .exact hd.kn t
   .have:getB (Wj b.length false) i=false:=by unfold getB;rw[Wg,Wu];split<;>rfl
    rw[this]at k;cases k
  .have:getB (Wj b.length false) i=false:=by unfold getB;rw[Wg,Wu];split<;>rfl
   rw[this]at h;cases h
  .have h0:Ls.filter (getB (Wj b.length false))=[]:=by
    rw[WF];intro i _;have:getB (Wj b.length false) i=false:=by unfold getB;rw[Wg,Wu];split<;>rfl
    rw[this];simp
   rw[h0];exact ok.st0
theorem zHs{call:zb2}(M:call.Sound P){s y:Nat}{t:World}{L:Nat->Prop}{c:Inj}{m:AH}{B:Nat}(base:RelH t L c m B){id:Nat}{ops:Array Oper}{k:List AOper}(g:k.length=ops.size)(j:∀(i:Nat)(o:Oper)(u:AOper),ops.toList[i]?=some o->k[i]?=some u->OpRel P s ops o u)(d:P.follows .mixedOrders=true){K:Kn}{H:AH}{nx:Nat}{w:World}{ι:Inj}{a:Act}(p:In s y t L c m B w ι K.get H nx a){r:Kn×AH×Nat}(h:zLj P call k (ops.toList.map zdF) K H nx=some r){Q:QT}(J:Q .normal r.1 r.2.1 r.2.2) :
  (Code.region id ops true).wp P (QQ s y t L c m B Q) a w:=by
 unfold zLj at h;split at h
 .rename_i O N top _;split at h
  .rename_i tab x;unfold drawR at h;generalize v:(We nx top&&_)=b at h
   cases b with
   |false=>cases h
   |true=>
    simp only[cond_true,Ws]at h;subst h;simp only[Wc]at v;obtain⟨z,A,D,C⟩:=v;refine DX.sound M base g j d (bleT z) rfl ⟨dok_of A D,λe F=>Wf.1 C e F,λi n=>?_,λi n q=>?_⟩ p J
    .have:=(Wi.1 n).2;simpa using this
    .cases I:(k.getD i default).fixed with
     |true=>rfl
     |false=>exact(q (Wi.2 ⟨Wl.2 n,by rw[I];rfl⟩)).elim
  .cases h
 .cases h
end
def zs5(nx:Nat):Nat->AV->List Nat
 |0,_=>[]
 |
  d+1,v=>match v with
  |.own r _ _ _ _=>bif Wd r nx then[]else[r]
  |.ptr r _ _ _ _=>bif Wd r nx then[]else[r]
  |.mp r _=>bif Wd r nx then[]else[r]
  |.it r=>bif Wd r nx then[]else[r]
  |.agg l=>l.flatMap (zs5 nx d)
  |.tup l=>l.flatMap (zs5 nx d)
  |.fn _ l=>l.flatMap (zs5 nx d)
  |_=>[]
def zsF(nx:Nat):List AV->List Nat->List Nat
 |[],b=>b
 |
  v::t,b=>match v with
  |.int _ _=>zsF nx t b
  |.sl _ _ _=>zsF nx t b
  |.nilsl=>zsF nx t b
  |v=>zsF nx t (zs5 nx 30 v++b)
def zAw(nx:Nat):List (List AV)->List Nat->List Nat
 |[],b=>b
 |c::t,b=>zAw nx t (zsF nx c b)
def zEU(nx:Nat):Option AObj->List Nat->List Nat
 |some (.row _ c _),b=>zAw nx c b
 |some (.fam _ d),b=>d.foldl (λb p=>zAw nx p.1 b) b
 |none,b=>b
def zFb(nx:Nat)(H:AH):Nat->List Nat->Nat->Nat
 |0,_,seen=>seen
 |_+1,[],seen=>seen
 |n+1,r::b,seen=>bif Wh seen r then zFb nx H n b seen else zFb nx H n (zEU nx (H.look r) b) (Nat.lor seen (WD 1 r))
def oldR(nx:Nat):AH->List Nat->List Nat
 |[],b=>b
 |(r,o)::t,b=>bif Wd r nx then oldR nx t (zEU nx (some o) b)else oldR nx t b
def zKh(nx:Nat)(v:AV)(H:AH):Nat:=zFb nx H 3000 (oldR nx H (zs5 nx 30 v)) 0
def AH.keepM(nx m:Nat):AH->AH
 |[]=>[]
 |(r,o)::t=>bif Wd r nx||Wh m r then(r,o)::AH.keepM nx m t else AH.keepM nx m t
theorem AH.look_keepM(nx m:Nat)(H:AH)(r:Nat):(H.keepM nx m).look r=bif Wd r nx||Wh m r then H.look r else none:=by
 induction H with
 |nil=>simp only[AH.keepM,AH.look];cases(Wd r nx||Wh m r)<;>rfl
 |cons p t ih=>
  obtain⟨j,o⟩:=p;simp only[AH.keepM]
  cases c:(Wd j nx||Wh m j)with
  |true=>
   simp only[cond_true,AH.look,ih]
   cases b:Wa j r with
   |true=>rw[<-zm b,c];rfl
   |false=>rfl
  |false=>
   simp only[cond_false,ih,AH.look]
   cases b:Wa j r with
   |true=>rw[<-zm b,c];rfl
   |false=>rfl
theorem AH.get_keepM(nx m:Nat)(H:AH)(r q:Nat):(H.keepM nx m).get r q=bif Wd r nx||Wh m r then H.get r q else none:=by unfold AH.get;rw[AH.look_keepM];cases(Wd r nx||Wh m r)<;>rfl
def gcH(nx:Nat)(v:AV)(H:AH)(b:Nat):AH:=bif We b (nx+4)then H else H.keepM nx (zKh nx v H)
theorem zJZ{nx}{v}{H}{nx' r q}{o}(h:(gcH nx v H nx').get r q=some o):H.get r q=some o:=by
 unfold gcH at h
 cases b:We nx' (nx+4)with
 |true=>rw[b]at h;exact h
 |false=>
  rw[b]at h;simp only[cond_false,AH.get_keepM]at h
  cases c:(Wd r nx||Wh (zKh nx v H) r)with
  |true=>rw[c]at h;exact h
  |false=>rw[c]at h;cases h
theorem zHe{nx}{v}{H}{nx' r}{o}(h:(gcH nx v H nx').look r=some o):H.look r=some o:=by
 unfold gcH at h
 cases b:We nx' (nx+4)with
 |true=>rw[b]at h;exact h
 |false=>
  rw[b]at h;simp only[cond_false,AH.look_keepM]at h
  cases c:(Wd r nx||Wh (zKh nx v H) r)with
  |true=>rw[c]at h;exact h
  |false=>rw[c]at h;cases h
section
variable {P:Program}
theorem RelH.sub{w}{L}{ι}{H H'}{nx}(rel:RelH w L ι H nx)(e:∀r q o,H'.get r q=some o->H.get r q=some o)(hd:∀r o,H'.look r=some o->r<nx):
  (∀b,live ι H' b->live ι H b)/\RelH w L ι H' nx:=by
 have m:∀b,live ι H' b->live ι H b:=λb ⟨r,q,n,c,g,l,d,j,p,s⟩=>⟨r,q,n,c,g,l,e _ _ _ d,j,p,s⟩
 have k:∀b,Lt L ι H' b->Lt L ι H b:=λb h=>h.elim .inl λh=>.inr (m b h)
 refine⟨m,λr q n c g h=>?_,λI D J F K x z B M y A C d j=>rel.apart _ _ _ _ _ _ _ _ _ _ _ _ (e _ _ _ d) (e _ _ _ j),λb t=>rel.out b (m b t),rel.idx,hd,λr q n c g h=>rel.gen _ _ _ _ _ (e _ _ _ h),rel.Lsz⟩;obtain⟨l,d,ok⟩:=rel.row _ _ _ _ _ (e _ _ _ h);exact⟨l,d,ok.trans (λ_=>rfl) λv a u=>u.anti k⟩
theorem zKi{f}{args}{H}{nx}{k}(h:zS P f args H nx (λv m c=>k v (gcH nx v m c) c)):zS P f args H nx k:=by
 intro w L ι A p s;refine(h w L ι A p s).mono λe B ⟨v,j,m,c,a,t,d,u,x,y⟩=>?_
 obtain⟨n,z⟩:=d.rel.sub (λr q o h=>zJZ h) (λr o h=>d.rel.dom r o (zHe h));exact⟨v,j,_,c,a,t,⟨d.ext,d.inj,z,λb g=>d.lv b (n b g)⟩,u,x.anti λb g=>g.elim .inl λg=>.inr (n b g),y⟩
def zCH(P:Program)(g:FuncId->Nat->List Nat)(b:zb2)(d:Nat->(Nat->List Nat)->Code->Kn->AH->Nat->Option Out):zb2:=λf args H nx=>
 match b f args H nx with
 |some r=>some r
 |
  none=>match P.funcs[f]? with
  |
   some fn=>match fn.body with
   |
    some c=>match fn.results.toList.mapM (cret P)with
    |
     some rs=>bif We args.length fn.ntmps then
      match d fn.ntmps (g f) c (zmR 0 args) H nx with
      |
       some (e,K,H',nx')=>match e with
       |.exit _=>none
       |.goto _=>none
       |_=>bif retS K H' rs then some (zkZ (zaU K H' nx' rs),gcH nx (zkZ (zaU K H' nx' rs)) H' nx',nx')else none
      |none=>none
     else none
    |none=>none
   |none=>none
  |none=>none
def ztA:Nat->Kn->Kn
 |_,[]=>[]
 |m,(j,v)::t=>bif Wh m j then(j,v)::ztA (Nat.xor m (WD 1 j)) t else ztA m t
theorem zIG{m j i}:Wh (Nat.xor m (WD 1 j)) i=(Wh m i ^^ Wa j i):=by
 have h:WD 1 j=2 ^ j:=by show 1 <<< j=2 ^ j;rw[Nat.shiftLeft_eq,Nat.one_mul]
 rw[h];have c:Nat.xor m (2 ^ j)=m ^^^ 2 ^ j:=rfl;rw[c,Nat.testBit_xor,Nat.testBit_two_pow];congr 1
 cases b:Wa j i with
 |true=>exact decide_eq_true (zm b)
 |false=>exact decide_eq_false λe=>by rw[e,zbP]at b;cases b
theorem ztW:∀(K:Kn)(m:Nat)(i:Nat),(ztA m K).get i=bif Wh m i then K.get i else .undef
 |[],m,i=>by simp only[ztA,Xa];cases Wh m i<;>rfl
 |
  (j,v)::t,m,i=>by
  unfold ztA
  cases c:Wh m j with
  |true=>
   simp only[cond_true,Xa]
   cases b:Wa j i with
   |true=>rw[<-zm b,c];rfl
   |false=>simp only[cond_false];rw[ztW t,zIG,b,Bool.xor_false]
  |false=>
   simp only[cond_false,Xa];rw[ztW t]
   cases b:Wa j i with
   |true=>rw[<-zm b,c];rfl
   |false=>rfl
def zJ9:List Nat->Nat
 |m::_=>m
 |[]=>0
def outR(r:ORes):AV×AH×Nat:=(r.v,r.H,r.nx)
def zLb(P:Program)(call:zb2)(op:AOp)(ρ:Nat->AV)(H:AH)(nx:Nat):Option (AV×AH×Nat) :=
 match op with
 |.mov x=>some (ev ρ x,H,nx)
 |.load g n p=>bif zGr n (ev ρ p) H then some (outR (zd5 g n (ev ρ p) H nx))else none
 |.store n p v=>bif zBP n (ev ρ p) (ev ρ v) H then some (outR (zfu n (ev ρ p) (ev ρ v) H nx))else none
 |.idx d x i=>bif idxS d (ev ρ x) (ev ρ i) H then some (outR (idxR d (ev ρ x) (ev ρ i) H nx))else none
 |.fldaddr off n x=>bif zvE off n (ev ρ x)then some (outR (zcO off n (ev ρ x) H nx))else none
 |.fld off n g x=>bif fldS off n (ev ρ x)then some (outR (fldR off n g (ev ρ x) H nx))else none
 |.len x=>bif lenS (ev ρ x)then some (outR (lenR (ev ρ x) H nx))else none
 |.bin o x y=>bif binS o (ev ρ x) (ev ρ y)then some (outR (binI o (ev ρ x) (ev ρ y) H nx))else none
 |.un o x=>bif unS o (ev ρ x)then some (outR (unR o (ev ρ x) H nx))else none
 |.pick c a b=>bif zJ5 (ev ρ c)then some (outR (zlu (ev ρ c) (ev ρ a) (ev ρ b) H nx))else none
 |.append d bytes x y=>bif zvG d bytes (ev ρ x) (ev ρ y) H then some (outR (ze8 d bytes (ev ρ x) (ev ρ y) H nx))else none
 |.ext i x=>bif extS i (ev ρ x)then some (outR (extR i (ev ρ x) H nx))else none
 |op=>ztL P call op ρ H nx
theorem zH7{P}{call:zb2}{op}{ρ}{H}{nx}:zLb P call op ρ H nx=ztL P call op ρ H nx:=by cases op<;>rfl
def valS(P:Program)(call:zb2)(o:AOper)(ρ:Nat->AV)(H:AH)(nx:Nat):Option (AV×AH×Nat) :=
 match o.guard with
 |none=>zLb P call o.op ρ H nx
 |
  some (t,want)=>match grd want (ρ t)with
  |some true=>zLb P call o.op ρ H nx
  |some false=>some (.tup [],H,nx)
  |none=>none
theorem zKN{P}{call:zb2}{o}{ρ}{H}{nx}:valS P call o ρ H nx=valX P call o ρ H nx:=by unfold valS valX;simp only[zH7]<;>rcases o.guard with _|⟨t,b⟩<;>first|rfl|(rcases c:grd b (ρ t)with _|(_|_)<;>simp only[c])
def zEh(K:Kn):Option Nat->AV->Kn
 |none,_=>K
 |some d,v=>(d,v)::K
theorem ztu{K1 K}(h:K.get=K1.get)(d)(v):(setO K d v).get=(zEh K1 d v).get:=by
 cases d with
 |none=>exact h
 |some d=>
  funext i;simp only[setO,zEh,Xb,Xa];by_cases b:i=d
  .rw[if_pos b,b,zbP];rfl
  .rw[if_neg b,zbc (Ne.symm b),h];rfl
def opsP(P:Program)(call:zb2):List AOper->Kn->AH->Nat->Option St3
 |[],K,H,nx=>some (K,H,nx)
 |
  o::os,K,H,nx=>match valS P call o K.get H nx with
  |some (v,c,b)=>opsP P call os (zEh K o.dst v) c b
  |none=>none
def zCA(P:Program)(call:zb2):DTree->Kn->AH->Nat->Option St3
 |.done,K,H,nx=>some (K,H,nx)
 |.stop,_,_,_=>none
 |
  .step o t,K,H,nx=>match valS P call o K.get H nx with
  |some (v,c,b)=>zCA P call t (zEh K o.dst v) c b
  |none=>none
 |
  .alt o t .stop,K,H,nx=>match valS P call o K.get H nx with
  |some (v,c,b)=>zCA P call t (zEh K o.dst v) c b
  |none=>none
 |.alt _ _ _,_,_,_=>none
theorem zvu{call:zb2}{o:AOper}{K d:Kn}(k:K.get=d.get){H:AH}{nx:Nat}{v:AV}{c:AH}{b:Nat}(h:valS P call o d.get H nx=some (v,c,b)):oneX P call o K H nx=some (setO K o.dst v,c,b):=by
 rw[zKN]at h;unfold valX at h;unfold oneX;rw[k]
 cases g:o.guard with
 |none=>rw[g]at h;simp only at h⊢;rw[h]
 |some p=>
  obtain⟨t,j⟩:=p;rw[g]at h;simp only at h⊢;split at h
  .rename_i e;simp only[e,h]
  .rename_i e;cases h;simp only[e]
  .cases h
theorem zDV{call:zb2}:∀{g:List AOper}{c K:Kn}{H:AH}{nx:Nat}{r:St3},opsP P call g c H nx=some r->K.get=c.get->∃b,zE5 P call g K H nx=some (b,r.2)/\b.get=r.1.get
 |
  [],c,K,H,nx,r,h,d=>by
  cases h;exact⟨K,rfl,d⟩
 |
  o::g,c,K,H,nx,r,h,d=>by
  simp only[opsP]at h;split at h
  .rename_i v n m e;obtain⟨b,j,k⟩:=zDV h (ztu d o.dst v);refine⟨b,?_,k⟩;simp only[zE5,zvu d e];exact j
  .cases h
theorem zvQ{call:zb2}:∀{t:DTree}{d K:Kn}{H:AH}{nx:Nat}{r:St3},zCA P call t d H nx=some r->K.get=d.get->∃c,zq3 P call t K H nx=some (c,r.2)/\c.get=r.1.get
 |
  .done,d,K,H,nx,r,h,b=>by
  cases h;exact⟨K,rfl,b⟩
 |.stop,_,_,_,_,_,h,_=>by cases h
 |
  .step o t,d,K,H,nx,r,h,b=>by
  simp only[zCA]at h;split at h
  .rename_i v m k e;obtain⟨c,g,j⟩:=zvQ h (ztu b o.dst v);refine⟨c,?_,j⟩;simp only[zq3,zvu b e];exact g
  .cases h
 |
  .alt o t .stop,d,K,H,nx,r,h,b=>by
  simp only[zCA]at h;split at h
  .rename_i v m k e;obtain⟨c,g,j⟩:=zvQ h (ztu b o.dst v);refine⟨c,?_,j⟩;simp only[zq3,zvu b e];exact g
  .cases h
 |.alt _ _ .done,_,_,_,_,_,h,_=>by cases h
 |.alt _ _ (.step _ _),_,_,_,_,_,h,_=>by cases h
 |.alt _ _ (.alt _ _ _),_,_,_,_,_,h,_=>by cases h
def outK(l:Nat):Option St3->Option Out
 |some (K,H,nx)=>some (.normal,ztA l K,H,nx)
 |none=>none
def regX(P:Program)(call:zb2)(b:Nat)(q:Nat->List Nat)(id:Nat)(ops:Array Oper)(draw:Bool)(K:Kn)(H:AH)(nx:Nat):Option Out :=
 match ops.toList.mapM (zFa P b ops)with
 |none=>none
 |
  some as'=>bif draw then
   (bif P.follows .mixedOrders&&(Wk ops.size).all (λj=>((ops.toList.map zdF).getD j []).all λi=>Wd i j)then
    match zCA P call (zcQ ((zgF (q id) 0 as').map (AOper.ro (q 999999))) (ops.toList.map zdF) ops.size (Wj ops.size false)) K H nx with
    |some r=>outK (zJ9 (q 999998)) (some r)
    |none=>outK (zJ9 (q 999998)) (zLj P call ((zgF (q id) 0 as').map (AOper.ro (q 999999))) (ops.toList.map zdF) K H nx)
   else none)
  else outK (zJ9 (q 999998)) (opsP P call (as'.map (AOper.ro (q 999999))) K H nx)
def zHv(l:Nat)(b:Kn->AH->Nat->Option Out):Nat->Option Out->Option Out
 |0,_=>none
 |
  m+1,r=>match r with
  |some (.goto c,K,H,nx)=>bif Wa c l then zHv l b m (b K H nx)else none
  |r=>r
def zhD(P:Program)(g:FuncId->Nat->List Nat)(d:zb2):Nat->Nat->(Nat->List Nat)->Code->Kn->AH->Nat->Option Out
 |0,_,_,_,_,_,_=>none
 |
  n+1,nt,q,c,K,H,nx=>match c with
  |.skip=>some (.normal,K,H,nx)
  |.region id ops draw=>regX P (zCH P g d (zhD P g d n)) nt q id ops draw K H nx
  |
   .seq a b=>match zhD P g d n nt q a K H nx with
   |some (.normal,k,h,e)=>zhD P g d n nt q b k h e
   |r=>r
  |
   .cond c a b=>match copd c with
   |
    some x=>match ev K.get x with
    |.bool true=>zhD P g d n nt q a K H nx
    |.bool false=>zhD P g d n nt q b K H nx
    |_=>none
   |none=>none
  |
   .block id c=>match zhD P g d n nt q c K H nx with
   |some (.exit j,k,h,e)=>bif Wa j id then some (.normal,k,h,e)else some (.exit j,k,h,e)
   |r=>r
  |
   .loop c=>match zhD P g d n nt q c K H nx with
   |some (.normal,k,h,e)=>zhD P g d n nt q (.loop c) k h e
   |r=>r
  |.exit id=>some (.exit id,K,H,nx)
  |.ret=>some (.ret,K,H,nx)
  |
   .scope c=>match zhD P g d n nt q c K H nx with
   |
    some (.goto l,k,h,e)=>match findLabel c l with
    |some m=>zHv l (zhD P g d n nt q m) n (zhD P g d n nt q m k h e)
    |none=>none
   |r=>r
  |.label _=>some (.normal,K,H,nx)
  |.goto l=>some (.goto l,K,H,nx)
  |_=>none
variable {qf:FuncId->Nat->List Nat}{orc:zb2}
def RunC(P:Program)(qf:FuncId->Nat->List Nat)(orc:zb2)(n:Nat):Prop :=
 ∀(g:Nat)(L:Nat->Prop)(d:World)(b:Inj)(e:AH)(B:Nat),RelH d L b e B->∀(q:Nat->List Nat)(c:Code)(w:World)(ι:Inj)(K:Kn)(H:AH)(nx:Nat)(a:Act)(r:Out),
  In g d.heap.size d L b e B w ι K.get H nx a->zhD P qf orc n g q c K H nx=some r->c.wp P (QQ g d.heap.size d L b e B (QX r)) a w
def zBV(P:Program)(qf:FuncId->Nat->List Nat)(orc:zb2)(n:Nat):Prop :=
 ∀(g:Nat)(L:Nat->Prop)(d:World)(b:Inj)(e:AH)(B:Nat),RelH d L b e B->∀(q:Nat->List Nat)(c:Code)(w:World)(ι:Inj)(K:Kn)(H:AH)(nx:Nat)(a:Act)(r:Out),
  In g d.heap.size d L b e B w ι K.get H nx a->zhD P qf orc n g q (.loop c) K H nx=some r->Code.rounds P c (QQ g d.heap.size d L b e B (QX r)) n a w
theorem zJB{f}{fn}{c}{rs}(d:P.funcs[f]?=some fn)(b:fn.body=some c)(g:fn.results.toList.mapM (cret P)=some rs){args}{H}{nx}{Post}(e:args.length<=fn.ntmps)(h:∀(w:World)(L:Nat->Prop)(ι:Inj)(a:Act),RelH w L ι H nx->In fn.ntmps w.heap.size w L ι H nx w ι (zmR 0 args).get H nx a->c.wp P (QQ fn.ntmps w.heap.size w L ι H nx (retK rs Post)) a w):zS P f args H nx Post :=
 zFo d b g e h
theorem zsx(J:orc.Sound P){n}(M:RunC P qf orc n):(zCH P qf orc (zhD P qf orc n)).Sound P:=by
 intro f args H nx r h;unfold zCH at h;split at h
 .rename_i O e;cases h;exact J f args H nx _ e
 .split at h
  .rename_i fn I;split at h
   .rename_i c D;split at h
    .rename_i k x
     cases g:We args.length fn.ntmps with
     |false=>rw[g]at h;cases h
     |true=>
      rw[g]at h;simp only[cond_true]at h;split at h
      .rename_i e K d b F
       have key:(∀id,e≠.exit id)->(∀l,e≠.goto l)->(bif retS K d k then some (zkZ (zaU K d b k),gcH nx (zkZ (zaU K d b k)) d b,b)else none)=some r->zS P f args H nx (λv d b=>(v,d,b)=r):=by
        intro o p h
        cases s:retS K d k with
        |false=>rw[s]at h;cases h
        |true=>
         rw[s]at h;simp only[cond_true,Ws]at h;subst h;refine zKi (zJB I D x (bleT g) λw L ι a rel u=>?_);refine wp_mono (M fn.ntmps L w ι H nx rel (qf f) c w ι _ H nx a _ u F) λC N Q ⟨y,B,A,nx2,m,q⟩=>⟨y,B,A,nx2,m,?_⟩
         have z:retK k (λv t j=>(v,gcH nx v t j,j)=(zkZ (zaU K d b k),gcH nx (zkZ (zaU K d b k)) d b,b)) e K d b:=by
          cases e with
          |exit id=>exact absurd rfl (o id)
          |goto l=>exact absurd rfl (p l)
          |normal=>exact⟨zwf s,rfl⟩
          |ret=>exact⟨zwf s,rfl⟩
         cases C with
         |normal=>cases q;exact z
         |exit id=>cases q;exact absurd rfl (o id)
         |ret=>cases q;exact z
         |goto l=>cases q;exact absurd rfl (p l)
         |_=>exact q.elim
       cases e with
       |exit id=>cases h
       |goto l=>cases h
       |normal=>exact key (by intro id e;cases e) (by intro id e;cases e) h
       |ret=>exact key (by intro id e;cases e) (by intro id e;cases e) h
      .cases h
    .cases h
   .cases h
  .cases h
theorem Kn.drop_nil:∀K:Kn,K.drop []=K
 |[]=>rfl
 |
  (j,v)::t=>by
  show(j,v)::Xd t []=(j,v)::t;rw[Kn.drop_nil t]
theorem zAA{l}{r:Option St3}{o:Out}(h:outK l r=some o):∃s,r=some s/\o=(.normal,ztA l s.1,s.2.1,s.2.2):=by
 cases r with
 |none=>cases h
 |some s=>obtain⟨K,H,nx⟩:=s;cases h;exact⟨_,rfl,rfl⟩
theorem In.less{nt n0}{w0}{L}{ι0}{H0}{B}{w}{ι}{ρ ρ2}{H}{nx}{a:Act}(h:In nt n0 w0 L ι0 H0 B w ι ρ H nx a)(b:∀i,ρ2 i=.undef\/ρ2 i=ρ i):In nt n0 w0 L ι0 H0 B w ι ρ2 H nx a :=
 ⟨h.size,h.defers,h.st,h.le,λi=>by rcases b i with e|e<;>rw[e];exact .undef _ _;exact h.kn i⟩
theorem zDj{l:Nat}{K b:Kn}(h:b.get=K.get)(i:Nat):(ztA l K).get i=.undef\/(ztA l K).get i=b.get i:=by
 rw[ztW,h];cases Wh l i
 .exact .inl rfl
 .exact .inr rfl
theorem zAl{c:Code}{n m:Nat}{o:World}{L:Nat->Prop}{e:Inj}{j:AH}{B:Nat}{l:Nat}{K k:Kn}{H:AH}{nx:Nat}{a:Act}{w:World}(q:k.get=K.get)(h:c.wp P (QQ n m o L e j B (QX (.normal,k,H,nx))) a w):c.wp P (QQ n m o L e j B (QX (.normal,ztA l K,H,nx))) a w:=by
 refine wp_mono h λp u v ⟨g,t,s,nx1,b,d⟩=>?_
 cases p with
 |normal=>cases d;exact⟨g,ztA l K,_,_,b.less (zDj q),rfl⟩
 |exit id=>cases d
 |ret=>cases d
 |goto l=>cases d
 |_=>exact d.elim
theorem zJP{call:zb2}(A:call.Sound P){nt n0}{w0}{L}{ι0}{H0}{B}(base:RelH w0 L ι0 H0 B){q}{id}{ops}{draw}{K}{H}{nx}{w}{ι}{a:Act}{r:Out}(g:In nt n0 w0 L ι0 H0 B w ι K.get H nx a)(h:regX P call nt q id ops draw K H nx=some r):(Code.region id ops draw).wp P (QQ nt n0 w0 L ι0 H0 B (QX r)) a w:=by
 unfold regX at h;split at h
 .cases h
 .rename_i j I;obtain⟨C,x⟩:=zwk I
  cases draw with
  |false=>
   simp only[cond_false]at h;obtain⟨s,v,rfl⟩:=zAA h;obtain⟨u,e,z⟩:=zDV v rfl;refine zAl z ?_;refine wp_region_list (zqF _ _ (by simpa using C) (λi o m n k=>?_) g (zBb (drop:=[]) A e ?_))
   .rw[Wt]at k;obtain⟨b,p,rfl⟩:=WB.1 k;exact(x i o b n p).ro
   .have:u.drop []=u:=Kn.drop_nil _;rw[this];rfl
  |true=>
   simp only[cond_true]at h;generalize t:(P.follows .mixedOrders&&_)=b at h
   cases b with
   |false=>cases h
   |true=>
    simp only[Wc]at t;simp only[cond_true]at h;have c:((zgF (q id) 0 j).map (AOper.ro (q 999999))).length=ops.size:=by rw[WK,zj2,C];simp
    have d:∀(i:Nat)(o:Oper)(m:AOper),ops.toList[i]?=some o->((zgF (q id) 0 j).map (AOper.ro (q 999999)))[i]?=some m->OpRel P nt ops o m:=λi o m n k=>by
     rw[Wt]at k;obtain⟨J,y,rfl⟩:=WB.1 k;obtain⟨b,p,F⟩:=zoD _ _ _ _ _ y;rcases F with rfl|rfl
     .exact(x i o _ n p).ro
     .exact(x i o _ n p).quiet.ro
    split at h
    .rename_i s v;obtain⟨M,D,rfl⟩:=zAA h;cases D;obtain⟨u,e,z⟩:=zvQ v rfl;refine zAl z ?_;refine zEw nt _ w0 L ι0 H0 B id ops _ [] _ c d t.1 t.2 w ι K H nx a g (zt8 A e ?_);rw[Kn.drop_nil];rfl
    .obtain⟨s,e,rfl⟩:=zAA h;exact zAl rfl (zHs A base c d t.1 g e rfl)
theorem zEb(ho:orc.Sound P):∀n,RunC P qf orc n/\zBV P qf orc n
 |0=>⟨λ_ _ _ _ _ _ _ _ _ _ _ _ _ _ _ _ _ h=>(by cases h),λ_ _ _ _ _ _ _ _ _ _ _ _ _ _ _ _ _ h=>(by cases h)⟩
 |
  n+1=>by
  obtain⟨t,ihL⟩:=zEb ho n;have T:=zsx ho t
  have y:zBV P qf orc (n+1):=by
   intro A L C p D B base q c w ι K H nx a r k h;rw[rounds_succ];simp only[zhD]at h;split at h
   .rename_i K' Z W e;refine wp_mono (t A L C p D B base q c w ι K H nx a _ k e) λz N O ⟨g,x,v,nx1,b,d⟩=>?_
    cases z with
    |normal=>cases d;exact ihL A L C p D B base q c O g _ _ _ N r b h
    |exit id=>cases d
    |ret=>cases d
    |goto l=>cases d
    |_=>exact d.elim
   .rename_i r' F;refine wp_mono (t A L C p D B base q c w ι K H nx a r k h) λz N O ⟨g,x,v,nx1,b,d⟩=>?_
    cases z with
    |normal=>cases d;exact absurd h (F x v nx1)
    |exit id=>exact⟨g,x,v,nx1,b,d⟩
    |ret=>exact⟨g,x,v,nx1,b,d⟩
    |goto l=>exact⟨g,x,v,nx1,b,d⟩
    |_=>exact d.elim
  refine⟨?_,y⟩;intro A L C p D B base q c w ι K H nx a r k h
  cases c with
  |skip=>cases h;exact wp_skip ⟨ι,K,H,nx,k,rfl⟩
  |label l=>cases h;exact wp_label ⟨ι,K,H,nx,k,rfl⟩
  |goto l=>cases h;exact wp_goto ⟨ι,K,H,nx,k,rfl⟩
  |exit id=>cases h;exact wp_exit ⟨ι,K,H,nx,k,rfl⟩
  |ret=>cases h;exact wp_ret ⟨ι,K,H,nx,k,rfl⟩
  |region id ops draw=>exact zJP T base k h
  |seq R c2=>
   simp only[zhD]at h;split at h
   .rename_i K' Z W e;refine wp_seq (wp_mono (t A L C p D B base q R w ι K H nx a _ k e) λz N O ⟨g,x,v,nx1,b,d⟩=>?_)
    cases z with
    |normal=>cases d;exact t A L C p D B base q c2 O g _ _ _ N r b h
    |exit id=>cases d
    |ret=>cases d
    |goto l=>cases d
    |_=>exact d.elim
   .rename_i r' F;refine wp_seq (wp_mono (t A L C p D B base q R w ι K H nx a r k h) λz N O ⟨g,x,v,nx1,b,d⟩=>?_)
    cases z with
    |normal=>cases d;exact absurd h (F x v nx1)
    |exit id=>exact⟨g,x,v,nx1,b,d⟩
    |ret=>exact⟨g,x,v,nx1,b,d⟩
    |goto l=>exact⟨g,x,v,nx1,b,d⟩
    |_=>exact d.elim
  |cond x1 R c2=>
   simp only[zhD]at h;split at h
   .rename_i x' hx;have X:=zt k.kn hx;split at h
    .rename_i U;rw[U]at X;generalize hu:a.eval x1=u at X;cases X;exact wp_cond_true hu (t A L C p D B base q R w ι K H nx a r k h)
    .rename_i U;rw[U]at X;generalize hu:a.eval x1=u at X;cases X;exact wp_cond_false hu (t A L C p D B base q c2 w ι K H nx a r k h)
    .cases h
   .cases h
  |block id R=>
   simp only[zhD]at h;split at h
   .rename_i j K' Z W e;refine wp_block (wp_mono (t A L C p D B base q R w ι K H nx a _ k e) λz N O ⟨g,x,v,nx1,b,d⟩=>?_)
    cases z with
    |normal=>cases d
    |exit j'=>
     cases d;simp only[Exit.inBlock];by_cases hj:j=id
     .subst hj;rw[if_pos rfl];rw[zbP]at h;cases h;exact⟨g,_,_,_,b,rfl⟩
     .rw[if_neg hj];rw[zbc hj]at h;cases h;exact⟨g,_,_,_,b,rfl⟩
    |ret=>cases d
    |goto l=>cases d
    |_=>exact d.elim
   .rename_i r' F;refine wp_block (wp_mono (t A L C p D B base q R w ι K H nx a r k h) λz N O ⟨g,x,v,nx1,b,d⟩=>?_)
    cases z with
    |normal=>exact⟨g,x,v,nx1,b,d⟩
    |exit j'=>cases d;exact absurd h (F j' x v nx1)
    |ret=>exact⟨g,x,v,nx1,b,d⟩
    |goto l=>exact⟨g,x,v,nx1,b,d⟩
    |_=>exact d.elim
  |loop R=>exact wp_loop_rounds (n+1) (y A L C p D B base q R w ι K H nx a r k h)
  |scope R=>
   simp only[zhD]at h;split at h
   .rename_i l K' Z W e;split at h
    .rename_i M V;let G:Nat->Act->World->Prop:=λm a w=>∃ι K H nx,In A C.heap.size C L p D B w ι (Xa K) H nx a/\zHv l (zhD P qf orc n A q M) m (zhD P qf orc n A q M K H nx)=some r
     have jm:∀{Q:Exit->Act->World->Prop}{J J':Act->World->Prop}{cz:Code}{a:Act}{w:World},(∀a w,J a w->J' a w)->cz.wp P (Exit.jump l J Q) a w->cz.wp P (Exit.jump l J' Q) a w:=by
      intro Q J J' cz a w hJ h;refine wp_mono h λz N O d=>?_
      cases z with
      |goto l'=>exact⟨d.1,hJ _ _ d.2⟩
      |_=>exact d
     refine wp_scope_jumps l (λa w=>∃m,G m a w) (zlf G) V ?_ ?_
     .refine wp_mono (t A L C p D B base q R w ι K H nx a _ k e) λz N O ⟨g,x,v,nx1,b,d⟩=>?_
      cases z with
      |goto l'=>cases d;exact⟨rfl,n,g,_,_,_,b,h⟩
      |normal=>cases d
      |exit id=>cases d
      |ret=>cases d
      |_=>exact d.elim
     .intro N O hJ;obtain⟨g,x,v,nx1,b,s⟩:=zq0 hJ
      cases Y:zlf G N O with
      |zero=>rw[Y]at s;cases s
      |succ m=>
       rw[Y]at s
       cases hz:zhD P qf orc n A q M x v nx1 with
       |none=>rw[hz]at s;cases s
       |some o=>
        obtain⟨e1,K2,H2,nx2⟩:=o;refine jm (λa2 w2 (h:G m a2 w2)=>⟨⟨_,h⟩,Nat.lt_succ_of_le (zu2 h)⟩) (wp_mono (t A L C p D B base q M O g x v nx1 N _ b hz) λz a2 w2 ⟨S,K3,H3,nx3,I,d⟩=>?_);rw[hz]at s
        cases z with
        |goto l'=>
         cases d;simp only[zHv]at s
         cases hb:Wa l' l with
         |false=>rw[hb]at s;cases s
         |true=>rw[hb]at s;exact⟨zm hb,S,_,_,_,I,s⟩
        |normal=>cases d;cases s;exact⟨S,_,_,_,I,rfl⟩
        |exit id=>cases d;cases s;exact⟨S,_,_,_,I,rfl⟩
        |ret=>cases d;cases s;exact⟨S,_,_,_,I,rfl⟩
        |_=>exact d.elim
    .cases h
   .rename_i r' F;refine wp_scope_straight (wp_mono (t A L C p D B base q R w ι K H nx a r k h) λz N O ⟨g,x,v,nx1,b,d⟩=>?_)
    cases z with
    |normal=>exact⟨g,x,v,nx1,b,d⟩
    |exit id=>exact⟨g,x,v,nx1,b,d⟩
    |ret=>exact⟨g,x,v,nx1,b,d⟩
    |goto l=>cases d;exact absurd h (F l x v nx1)
    |_=>exact d.elim
  |_=>cases h
theorem zuT(c:orc.Sound P)(n){f}{args}{H}{nx}{r}(h:zCH P qf orc (zhD P qf orc n) f args H nx=some r):zS P f args H nx (λv d b=>(v,d,b)=r) :=
 zsx c (zEb c n).1 f args H nx r h
def zFn(b:Bool):Option (AV×AH×Nat)->Bool
 |some (.bool c,_,_)=>c == b
 |_=>false
theorem zDl(j:orc.Sound P)(n:Nat){f:FuncId}{args:List AV}{b:Bool}(h:zFn b (zCH P qf orc (zhD P qf orc n) f args [] 0)=true):zn P f args (·=.bool b):=by
 unfold zFn at h;split at h
 .rename_i c m k e;have d:c=b:=by simpa using h
  subst d;exact(zuT j n e).mono λv o nx1 g=>by cases g;exact⟨_,.bool _ _,rfl⟩
 .cases h
def qEx:List (Nat×List Nat)->Nat->List Nat
 |[],_=>Wk 150
 |(j,l)::t,i=>bif Wa j i then(Wk 150).filter (λx=> !memN l x)else qEx t i
def qTabK:List (Nat×List Nat×List Nat×List (Nat×List Nat))->FuncId->Nat->List Nat
 |[],_=>qAll
 |(g,ro,c,b)::t,f=>bif Wa g f then(λid=>bif Wa id 999999 then ro else bif Wa id 999998 then c else qEx b id)else qTabK t f
end
end Go.Ab
