/-
  Part 5 of the proof: how the calls of this program run, over values instead of memory, and what each function computes.
-/
import Derived.LoopN
import Derived.Test.YtmlhipilbnjhiaaGreatPd
set_option maxRecDepth 100000
set_option linter.unusedVariables false
set_option linter.unusedSimpArgs false
set_option linter.unnecessarySimpa false
set_option linter.unusedSectionVars false
open Go.Ab.Kn renaming get->Xa,get_set->Xb,drop->Xd
open Go.Ab.Inj renaming upto->Xc
open Classical renaming byContradiction->Xe
open Nat renaming beq→Wa,blt→Wd,ble→We,testBit→Wh,le_of_ble_eq_true→Wq,strongRecOn→Wy,shiftLeft→WD,lt_of_lt_of_le→WI,le_of_not_lt→WO
open Bool renaming and_eq_true→Wc,or_eq_true→Wm,or_eq_true_iff→Wr,not_eq_true'→WE,false_or→WG
open List renaming all_eq_true→Wf,getD_eq_getElem?_getD→Wg,mem_filter→Wi,replicate→Wj,range→Wk,mem_range→Wl,getElem?_eq_getElem→Wn,mem_cons_of_mem→Wo,mem_map→Wp,getElem?_map→Wt,getElem?_replicate→Wu,any_eq_true→Ww,mem_cons→Wx,getElem?_eq_none→Wz,filter_congr→WA,mem_of_getElem?→WC,filter_eq_nil_iff→WF,mem_iff_getElem→WH,mem_filterMap→WJ,length_map→WK,replicate_succ→WL,filter_eq_self→WM,length_cons→WN
open Option.some renaming injEq→Ws
open Option renaming isSome_iff_exists→Wv,map_eq_some_iff→WB
namespace Go.Ab
open Go.RowKit
section
variable {P:Program}
def KEq(K b:Kn):Prop:=∀i,K.get i=b.get i
theorem Kn.get_drop'(K:Kn)(l:List Nat)(x:Nat):(K.drop l).get x=bif memN l x then .undef else K.get x:=by
 induction K with
 |nil=>cases memN l x<;>rfl
 |cons p t ih=>
  obtain⟨j,u⟩:=p;simp only[Xd]
  cases b:memN l j with
  |true=>
   simp only[cond_true,ih,Xa]
   cases c:Wa j x with
   |true=>rw[zj c]at b;rw[b];rfl
   |false=>rfl
  |false=>
   simp only[cond_false,Xa,ih]
   cases c:Wa j x with
   |true=>rw[zj c]at b;rw[b];rfl
   |false=>rfl
theorem KEq.fn{K K'}(h:KEq K K'):K.get=K'.get:=funext h
theorem KEq.rfl'(K):KEq K K:=λ_=>rfl
theorem KEq.set{K K'}(h:KEq K K')(d)(v):KEq (K.set d v) (K'.set d v):=λi=>by rw[Xb,Xb,h i]
theorem KEq.setO{K K'}(h:KEq K K')(d)(v):KEq (Go.Ab.setO K d v) (Go.Ab.setO K' d v):=by
 cases d with
 |none=>exact h
 |some d=>exact h.set d v
theorem KEq.drop{K K'}(h:KEq K K')(l):KEq (K.drop l) (K'.drop l):=λi=>by rw[Kn.get_drop',Kn.get_drop',h i]
theorem zyA{fx}{o}{K c}{H}{nx}{k k'}(q:∀K c H nx,KEq K c->k K H nx->k' c H nx)(j:KEq K c)(h:ExK P fx o K H nx k):ExK P fx o c H nx k':=by
 have key:zcA P fx o.op K.get H nx (λv m d=>k (setO K o.dst v) m d)->zcA P fx o.op c.get H nx (λv m d=>k' (setO c o.dst v) m d):=λh=>by rw[<-j.fn];exact zcM (λv H nx h=>q _ _ _ _ (j.setO _ _) h) h
 unfold ExK at *
 cases n:o.guard with
 |none=>rw[n]at h;exact key h
 |some p=>
  obtain⟨t,g⟩:=p;rw[n]at h;simp only at h⊢;rw[<-j t]
  cases s:grd g (K.get t)with
  |some b=>rw[s]at h;exact⟨λe=>key (h.1 e),λe=>q _ _ _ _ (j.setO _ _) (h.2 e)⟩
  |none=>rw[s]at h;exact h
def QLe(Q c:QT):Prop:=∀e K b H nx,KEq K b->Q e K H nx->c e b H nx
def QExt(Q:QT):Prop:=QLe Q Q
theorem zyK{Q Q'}(d:QLe Q Q'){drop}:∀{e:List AOper}{K c:Kn}{H:AH}{nx:Nat},KEq K c->aops P e drop Q K H nx->aops P e drop Q' c H nx
 |[],_,_,_,_,b,h=>d _ _ _ _ _ (b.drop _) h
 |_::_,_,_,_,_,b,h=>zyA (λ_ _ _ _ b h=>zyK d b h) b h
theorem zqE{Q Q'}(c:QLe Q Q'){drop}:∀{t:DTree}{K d:Kn}{H:AH}{nx:Nat},KEq K d->awpT P t drop Q K H nx->awpT P t drop Q' d H nx
 |.done,_,_,_,_,b,h=>c _ _ _ _ _ (b.drop _) h
 |.stop,_,_,_,_,_,_=>trivial
 |.step _ _,_,_,_,_,b,h=>zyA (λ_ _ _ _ b h=>zqE c b h) b h
 |.alt _ _ _,_,_,_,_,b,h=>⟨zyA (λ_ _ _ _ b h=>zqE c b h) b h.1,zqE c b h.2⟩
theorem Ent.ext{B}{K K' K2}{H H2}{nx nx2}(b:KEq K K')(h:Ent B K H nx K2 H2 nx2):Ent B K' H nx K2 H2 nx2:=⟨h.1,λw L ι tmps rel c=>h.2 w L ι tmps rel (by rw[b.fn];exact c)⟩
theorem zID{B}:∀{c:ACode}{Q m:QT}{K k:Kn}{H:AH}{nx:Nat},QLe Q m->KEq K k->awp P B c Q K H nx->awp P B c m k H nx:=by
 intro c
 induction c with
 |skip=>intro Q m K k H nx j d h;exact j _ _ _ _ _ d h
 |region W drop=>intro Q m K k H nx j d h;exact zyK j d h
 |draw t drop=>intro Q m K k H nx j d h;exact zqE j d h
 |seq a b q u=>
  intro Q m K k H nx j d h;refine q (λe K k H nx d h=>?_) d h
  cases e with
  |normal=>exact @u Q m K k H nx j d h
  |exit id=>exact j _ _ _ _ _ d h
  |ret=>exact j _ _ _ _ _ d h
  |goto l=>exact j _ _ _ _ _ d h
 |cond c a b q u=>
  intro Q m K k H nx j d h;unfold awp at h⊢;have e:ev k.get c=ev K.get c:=by rw[d.fn]
  rw[e];cases O:ev K.get c<;>rw[O]at h<;>first|exact h|skip
  exact⟨λe=>q j d (h.1 e),λe=>u j d (h.2 e)⟩
 |block id c A=>
  intro Q m K k H nx j d h;refine A (λe K k H nx d h=>?_) d h
  cases e with
  |normal=>exact j _ _ _ _ _ d h
  |exit id'=>simp only at h⊢;cases L:Wa id' id<;>rw[L]at h<;>exact j _ _ _ _ _ d h
  |ret=>exact j _ _ _ _ _ d h
  |goto l=>exact j _ _ _ _ _ d h
 |loop c A=>
  intro Q m K k H nx j d h;obtain⟨α,S,N,v,μ,⟨a,J,V⟩,L⟩:=h;refine⟨α,S,N,v,μ,⟨a,J,V.ext d⟩,λa J z=>A (λe K k H nx d h=>?_) (KEq.rfl' _) (L a J z)⟩
  cases e with
  |normal=>obtain⟨w,o,p,C⟩:=h;exact⟨w,o,p,C.ext d⟩
  |exit id=>exact j _ _ _ _ _ d h
  |ret=>exact j _ _ _ _ _ d h
  |goto l=>exact j _ _ _ _ _ d h
 |exit id=>intro Q m K k H nx j d h;exact j _ _ _ _ _ d h
 |ret=>intro Q m K k H nx j d h;exact j _ _ _ _ _ d h
 |mark n c A=>intro Q m K k H nx j d h z;obtain⟨U,T,nx2,o,p⟩:=h (λi=>by rw[d i];exact z i);exact⟨U,T,nx2,o.ext d,A j (KEq.rfl' _) p⟩
 |join a b q u=>
  intro Q m K k H nx j d h;obtain⟨α,S,N,v,o,p⟩:=h;refine⟨α,S,N,v,q (λe K k H nx d h=>?_) d o,λx D z=>u j (KEq.rfl' _) (p x D z)⟩
  cases e with
  |normal=>obtain⟨w,o,p⟩:=h;exact⟨w,o,p.ext d⟩
  |exit id=>exact j _ _ _ _ _ d h
  |ret=>exact j _ _ _ _ _ d h
  |goto l=>exact j _ _ _ _ _ d h
 |scope c A=>
  intro Q m K k H nx j d h;refine A (λe K k H nx d h=>?_) d h
  cases e with
  |goto l=>exact h
  |normal=>exact j _ _ _ _ _ d h
  |exit id=>exact j _ _ _ _ _ d h
  |ret=>exact j _ _ _ _ _ d h
 |range g ps a b q u=>intro Q m K k H nx j d h;obtain⟨σ,f,caps,next,ok,s0,α,K1,S,N,v,invx,nc,Hc,R,O,hgood,hcaps,hit,hok,hlen,hlow,⟨a0,y,M⟩,hround,hdone,D⟩:=h;refine⟨σ,f,caps,next,ok,s0,α,K1,S,N,v,invx,nc,Hc,R,?_,hgood,hcaps,hit,hok,hlen,hlow,⟨a0,y,M.ext d⟩,hround,λa s F o p C=>j _ _ _ _ _ (KEq.rfl' _) (hdone a s F o p C),λa e F o p=>j _ _ _ _ _ (KEq.rfl' _) (D a e F o p)⟩;rw[<-d.fn];exact O
 |label l=>intro Q m K k H nx j d h;exact j _ _ _ _ _ d h
 |goto l=>intro Q m K k H nx j d h;exact j _ _ _ _ _ d h
 |jump l a b q u=>
  intro Q m K k H nx j d h;obtain⟨α,S,N,v,μ,o,p⟩:=h;refine⟨α,S,N,v,μ,q (λe K k H nx d h=>?_) d o,λx D z=>u (λe K k H nx d h=>?_) (KEq.rfl' _) (p x D z)⟩
  .cases e with
   |goto l=>obtain⟨I,w,o,p⟩:=h;exact⟨I,w,o,p.ext d⟩
   |normal=>exact j _ _ _ _ _ d h
   |exit id=>exact j _ _ _ _ _ d h
   |ret=>exact j _ _ _ _ _ d h
  .cases e with
   |goto l=>obtain⟨I,w,o,p,C⟩:=h;exact⟨I,w,o,p,C.ext d⟩
   |normal=>exact j _ _ _ _ _ d h
   |exit id=>exact j _ _ _ _ _ d h
   |ret=>exact j _ _ _ _ _ d h
theorem QExt.seq{B}{b}{Q}(h:QExt Q):QExt (seqQ P B b Q):=by
 intro e K g H nx d c
 cases e with
 |normal=>exact zID h d c
 |exit id=>exact h _ _ _ _ _ d c
 |ret=>exact h _ _ _ _ _ d c
 |goto l=>exact h _ _ _ _ _ d c
theorem QExt.block{id}{Q}(h:QExt Q):QExt (zhw id Q):=by
 intro e K g H nx c b
 cases e with
 |normal=>exact h _ _ _ _ _ c b
 |exit id'=>unfold zhw at *;simp only at b⊢;cases d:Wa id' id<;>rw[d]at b<;>exact h _ _ _ _ _ c b
 |ret=>exact h _ _ _ _ _ c b
 |goto l=>exact h _ _ _ _ _ c b
theorem QExt.loop{B:Nat}{α:Type}{S:α->Kn×AH}{N:Nat}{d:α->Prop}{μ:α->Nat}{a:α}{Q:QT}(h:QExt Q):QExt (zqY B S N d μ a Q):=by
 intro e K n H nx c b
 cases e with
 |normal=>obtain⟨g,j,k,m⟩:=b;exact⟨g,j,k,m.ext c⟩
 |exit id=>exact h _ _ _ _ _ c b
 |ret=>exact h _ _ _ _ _ c b
 |goto l=>exact h _ _ _ _ _ c b
theorem QExt.join{B:Nat}{α:Type}{S:α->Kn×AH}{N:Nat}{d:α->Prop}{Q:QT}(h:QExt Q):QExt (zsi B S N d Q):=by
 intro e K m H nx c b
 cases e with
 |normal=>obtain⟨g,j,k⟩:=b;exact⟨g,j,k.ext c⟩
 |exit id=>exact h _ _ _ _ _ c b
 |ret=>exact h _ _ _ _ _ c b
 |goto l=>exact h _ _ _ _ _ c b
theorem zrk{K K'}{H}{nx}(d:KEq K K')(b)(h:zbV K H nx b):zbV K' H nx b:=by
 induction b with
 |nil=>exact h
 |cons r b c=>
  cases r with
  |tmp t=>exact c h
  |cell t a n=>unfold zbV at h⊢;rw[<-d t];exact⟨h.1,c h.2⟩
theorem zq7{K K'}{H}{nx}(c:KEq K K')(b):zaO K H nx b=zaO K' H nx b:=by
 induction b with
 |nil=>rfl
 |cons r b ih=>
  cases r with
  |tmp t=>unfold zaO;rw[c t,ih]
  |cell t a n=>unfold zaO;rw[c t,ih]
theorem QExt.retK{g:List ARet}{c:AV->AH->Nat->Prop}:QExt (retK g c):=by
 intro e K h H nx d b;unfold Go.Ab.retK at *
 cases e with
 |exit id=>exact b
 |goto l=>exact b
 |normal=>exact⟨zrk d _ b.1,by rw[<-zq7 d];exact b.2⟩
 |ret=>exact⟨zrk d _ b.1,by rw[<-zq7 d];exact b.2⟩
theorem zyM{fx}{o}{K}{H}{nx}{k k'}(d:∀K H nx,k K H nx->k' K H nx)(h:ExK P fx o K H nx k):ExK P fx o K H nx k':=by
 unfold ExK at *
 cases g:o.guard with
 |none=>rw[g]at h;exact zcM (λv H nx h=>d _ _ _ h) h
 |some p=>
  obtain⟨t,c⟩:=p;rw[g]at h;simp only at h⊢
  cases j:grd c (K.get t)with
  |some b=>rw[j]at h;exact⟨λe=>zcM (λv H nx h=>d _ _ _ h) (h.1 e),λe=>d _ _ _ (h.2 e)⟩
  |none=>rw[j]at h;exact h
theorem alt_of{drop}{Q}{K}{H}{nx}(l)(h:∀p∈l,ExK P false p.1 K H nx (awpT P p.2 drop Q)):awpT P (zHF l) drop Q K H nx:=by
 induction l with
 |nil=>trivial
 |cons p l c=>exact⟨h p (List.mem_cons_self ..),c λq b=>h q (Wo _ b)⟩
theorem zz3{ops}{deps}{drop}{Q}(Inv:List Bool->Kn->AH->Nat->Prop)(d:∀l K H nx i,l.length=ops.length->Inv l K H nx->i<ops.length->zbC deps l i=true->ExK P false (ops.getD i default) K H nx (Inv (l.set i true)))(c:∀l K H nx,l.length=ops.length->Inv l K H nx->(∀i,i<ops.length->zbC deps l i=false)->Q .normal (K.drop drop) H nx) :
  ∀(b:Nat)(l:List Bool)(K:Kn)(H:AH)(nx:Nat),l.length=ops.length->zhE l<=b->Inv l K H nx->awpT P (zd9 ops deps b l) drop Q K H nx
 |
  0,l,K,H,nx,hl,hc,h=>by
  refine c l K H nx hl h λi e=>?_
  have:=zkI (l:=l) (by omega) i (by omega);unfold zbC;rw[this];rfl
 |
  b+1,l,K,H,nx,hl,hc,h=>by
  simp only[zd9];have mem:∀i,i∈(Wk ops.length).filter (zbC deps l)->i<ops.length/\zbC deps l i=true:=λi e=>by have:=Wi.1 e;exact⟨Wl.1 this.1,this.2⟩
  have next:∀i,i<ops.length->zbC deps l i=true->ExK P false (ops.getD i default) K H nx (awpT P (zd9 ops deps b (l.set i true)) drop Q):=λi e g=>by refine zyM (λK H nx m=>?_) (d l K H nx i hl h e g);refine zz3 Inv d c b _ K H nx (by simpa using hl) ?_ m;have:=zmr (l:=l) (i:=i) (by omega) (za5.1 g).1;omega
  cases g:(Wk ops.length).filter (zbC deps l)with
  |nil=>
   refine c l K H nx hl h λi e=>?_
   cases j:zbC deps l i with
   |false=>rfl
   |true=>have:i∈(Wk ops.length).filter (zbC deps l):=Wi.2 ⟨Wl.2 e,j⟩;rw[g]at this;simp at this
  |cons o r0=>
   simp only
   cases k:(o::r0).find? (zFz ops deps l)with
   |some i=>have:=mem i (by rw[g];exact List.mem_of_find?_eq_some k);exact next i this.1 this.2
   |none=>
    refine alt_of _ λp n=>?_
    obtain⟨i,e,rfl⟩:=Wp.1 n;have:=mem i (by rw[g];exact e);exact next i this.1 this.2
def zav:Kn->List (Nat×AV)->Kn
 |K,[]=>K
 |K,(d,v)::r=>zav (K.set d v) r
def zxB(b:Kn):Option Nat->Kn->Prop
 |none,_=>True
 |some d,K=>K.get d=b.get d
def zos(P:Program)(c:Kn)(o:AOper)(a b:AH×Nat):Prop:=zaP P (.tree (.step o .done)) [] (λ_ K H nx=>zxB c o.dst K/\H=b.1/\nx=b.2) c a.1 a.2
abbrev Plan:=List (Nat×List Nat×List Nat)
def zxn(P:Program)(ops:List AOper)(c:Kn)(b:List Nat->AH×Nat):Plan->Prop
 |[]=>True
 |(i,S,d)::r=>zos P c (ops.getD i default) (b S) (b d)/\zxn P ops c b r
def beqL:List Nat->List Nat->Bool
 |[],[]=>true
 |a::l,b::m=>Wa a b&&beqL l m
 |_,_=>false
theorem zgJ:∀{l m:List Nat},beqL l m=true->l=m
 |[],[],_=>rfl
 |
  a::l,b::m,h=>by
  simp only[beqL,Wc]at h;rw[zj h.1,zgJ h.2]
 |[],_::_,h=>by cases h
 |_::_,[],h=>by cases h
def memP:Plan->Nat->List Nat->List Nat->Bool
 |[],_,_,_=>false
 |(i,k,d)::r,a,b,c=>(Wa i a&&(beqL k b&&beqL d c))||memP r a b c
def anyP:Plan->Nat->Bool
 |[],_=>false
 |(i,k,b)::r,a=>(Wa i a&&beqL k b)||anyP r a
def memS:List (List Nat)->List Nat->Bool
 |[],_=>false
 |a::r,b=>beqL a b||memS r b
theorem zuD:∀ {l:List (List Nat)}{b:List Nat},memS l b=true->b∈l
 |[],_,h=>by cases h
 |
  a::r,b,h=>by
  simp only[memS,Wm]at h;rcases h with h|h
  .rw[zgJ h];simp
  .exact Wo _ (zuD h)
theorem zrU{ops}{Kf}{hs}:∀{l:Plan},zxn P ops Kf hs l->∀{a:Nat}{b c:List Nat},memP l a b c=true->zos P Kf (ops.getD a default) (hs b) (hs c)
 |[],_,_,_,_,h=>by cases h
 |
  (i,k,k')::r,h,a,b,c,d=>by
  simp only[memP,Wm,Wc]at d;rcases d with ⟨e,g,j⟩|d
  .rw[<-zj e,<-zgJ g,<-zgJ j];exact h.1
  .exact zrU h.2 d
theorem zv9{ops}{Kf}{hs}:∀{l:Plan},zxn P ops Kf hs l->∀{a:Nat},anyP l a=true->∃b,zos P Kf (ops.getD a default) (hs b) (hs b)
 |[],_,_,h=>by cases h
 |
  (i,k,k')::r,h,a,c=>by
  simp only[anyP,Wm,Wc]at c;rcases c with ⟨d,e⟩|c
  .rw[<-zj d];have:=h.1;rw[<-zgJ e]at this;exact⟨_,this⟩
  .exact zv9 h.2 c
def zfe(b:List Nat)(A:List (List Nat))(i:Nat)(S:List Nat):Bool :=
 !memN S i&&(b.all (λm=> !memN (A.getD i []) m||memN S m)&&S.all λm=> !memN (A.getD m []) i)
def zmJ(b:List Nat)(i:Nat)(S:List Nat):List Nat:=b.filter λm=>Wa m i||memN S m
structure DrawOk(ops:List AOper)(deps:List (List Nat))(Ls:List Nat)(A:List (List Nat))(St:List (List Nat))(plan:Plan)(ks:List Nat):Prop where
 low:∀(i:Nat),i<ops.length->∀j∈deps.getD i [],j<i
 clo:∀(i:Nat),i<ops.length->∀j∈A.getD i [],j∈deps.getD i []\/∃d∈deps.getD i [],j∈A.getD d []
 one:∀(i j d:Nat),i<ops.length->j<ops.length->(ops.getD i default).dst=some d->(ops.getD j default).dst=some d->i=j
 keys:∀k∈ks,∃o∈ops,o.dst=some k
 look:∀(i:Nat),i<ops.length->∀t∈(ops.getD i default).looks,(∃j∈A.getD i [],(ops.getD j default).dst=some t)\/∀o∈ops,o.dst≠some t
 lin:∀i∈Ls,i<ops.length
 st0:[]∈St
 stc:∀S∈St,∀i∈Ls,zfe Ls A i S=true->zmJ Ls i S∈St
 plan:∀(i:Nat),i<ops.length->((ops.getD i default).fixed=true/\(ops.getD i default).sees=false/\i∉Ls/\anyP plan i=true) \/
  (i∉Ls/\∀S∈St,zfe Ls A i S=true->memP plan i S S=true)\/(i∈Ls/\∀S∈St,zfe Ls A i S=true->memP plan i S (zmJ Ls i S)=true)
def allB(n:Nat)(p:Nat->Bool):Bool:=(Wk n).all p
def zyX(ops:List AOper)(b:List (List Nat))(g:List Nat)(A:List (List Nat))(St:List (List Nat))(c:Plan)(h:List Nat):Bool :=
 allB ops.length (λi=>(b.getD i []).all λj=>Wd j i) &&
 allB ops.length (λi=>(A.getD i []).all λj=>memN (b.getD i []) j||(b.getD i []).any λd=>memN (A.getD d []) j) &&
 allB ops.length (λi=>allB i λj=>match (ops.getD i default).dst,(ops.getD j default).dst with|some d,some e=> !Nat.beq d e|_,_=>true) &&
 h.all (λk=>ops.any λo=>match o.dst with|some d=>Wa d k|none=>false) &&
 allB ops.length (λi=>(ops.getD i default).looks.all λt=>((A.getD i []).any λj=>match (ops.getD j default).dst with|some d=>Wa d t|none=>false)||ops.all λo=>match o.dst with|some d=> !Nat.beq d t|none=>true) &&
 g.all (λi=>Wd i ops.length) &&
 memS St [] &&
 St.all (λS=>g.all λi=> !zfe g A i S||memS St (zmJ g i S)) &&
 allB ops.length (λi=>bif memN g i then St.all λS=> !zfe g A i S||memP c i S (zmJ g i S)
  else((ops.getD i default).fixed&&(!(ops.getD i default).sees&&anyP c i))||St.all λS=> !zfe g A i S||memP c i S S)
theorem zbs{n}{p}(h:allB n p=true){i}(b:i<n):p i=true:=Wf.1 h i (Wl.2 b)
theorem impB{a b}(h:(!a||b)=true)(c:a=true):b=true:=by subst c;simpa using h
theorem zvX{ops}{deps}{Ls}{A}{St}{plan}{ks}(h:zyX ops deps Ls A St plan ks=true):DrawOk ops deps Ls A St plan ks:=by
 unfold zyX at h;simp only[Wc]at h;obtain⟨⟨⟨⟨⟨⟨⟨⟨w,x⟩,h3⟩,h4⟩,h5⟩,h6⟩,h7⟩,h8⟩,h9⟩:=h;have g:∀i j d,i<ops.length->j<i->(ops.getD i default).dst=some d->(ops.getD j default).dst=some d->False:=λi j d b c s u=>by have:=zbs (zbs h3 b) c;rw[s,u]at this;simp[zbB]at this
 constructor
 .intro i b j c;exact Wq (Wf.1 (zbs w b) j c)
 .intro i b j c;have:=Wf.1 (zbs x b) j c;rcases Wr.1 this with this|this
  .exact .inl ((zah _ _).1 this)
  .obtain⟨d,hd,m⟩:=Ww.1 this;exact .inr ⟨d,hd,(zah _ _).1 m⟩
 .intro i j d b c s u;rcases Nat.lt_trichotomy i j with h|h|h
  .exact(g j i d c h u s).elim
  .exact h
  .exact(g i j d b h s u).elim
 .intro k y;obtain⟨o,v,hd⟩:=Ww.1 (Wf.1 h4 k y);refine⟨o,v,?_⟩
  cases e:o.dst with
  |none=>rw[e]at hd;cases hd
  |some d=>rw[e]at hd;rw[zj hd]
 .intro i b t z;have:=Wf.1 (zbs h5 b) t z;rcases Wr.1 this with this|this
  .obtain⟨j,c,hd⟩:=Ww.1 this;refine .inl ⟨j,c,?_⟩
   cases e:(ops.getD j default).dst with
   |none=>rw[e]at hd;cases hd
   |some d=>rw[e]at hd;rw[zj hd]
  .refine .inr λo v e=>?_
   have:=Wf.1 this o v;rw[e]at this;simp[zbB]at this
 .intro i b;exact Wq (Wf.1 h6 i b)
 .exact zuD h7
 .intro S n i b p;exact zuD (impB (Wf.1 (Wf.1 h8 S n) i b) p)
 .intro i b;have:=zbs h9 b
  cases m:memN Ls i with
  |true=>rw[m]at this;exact .inr (.inr ⟨(zah _ _).1 m,λS n p=>impB (Wf.1 this S n) p⟩)
  |false=>
   rw[m]at this;have q:=zo9 m;rcases Wr.1 this with this|this
   .simp only[Wc,WE]at this;exact .inl ⟨this.1,this.2.1,q,this.2.2⟩
   .exact .inr (.inl ⟨q,λS n p=>impB (Wf.1 this S n) p⟩)
theorem zgz:∀ {b:List (Nat×AV)}{K:Kn}{t:Nat},t∉b.map (·.1)->(zav K b).get t=K.get t
 |[],_,_,_=>rfl
 |
  (d,v)::r,K,t,h=>by
  simp only[List.map_cons,Wx,not_or]at h;rw[zav,zgz h.2,Xb,if_neg h.1]
def zsg:List (Nat×AV)->Nat->Option AV
 |[],_=>none
 |
  (d,v)::r,t=>match zsg r t with
  |some u=>some u
  |none=>bif Wa d t then some v else none
def zAA(K:Kn)(t:Nat):Option AV->AV
 |some v=>v
 |none=>K.get t
theorem zf:∀ {b:List (Nat×AV)}{K:Kn}{t:Nat},(zav K b).get t=zAA K t (zsg b t)
 |[],_,_=>rfl
 |
  (d,v)::r,K,t=>by
  rw[zav,zf];simp only[zsg]
  cases zsg r t with
  |some u=>rfl
  |none=>
   simp only[zAA,Xb];by_cases h:t=d
   .subst h;simp[zbB,zAA]
   .simp[h,za3 (Ne.symm h),zAA]
structure DInv(ops:List AOper)(deps:List (List Nat))(Ls:List Nat)(St:List (List Nat))(Kf:Kn)(hs:List Nat->AH×Nat)(l:List Bool)(K:Kn)(H:AH)(nx:Nat):Prop where
 clo:∀i,i<ops.length->getB l i=true->∀j∈deps.getD i [],getB l j=true
 done:∀i d,i<ops.length->getB l i=true->(ops.getD i default).dst=some d->K.get d=Kf.get d
 rest:∀t,(∀o∈ops,o.dst≠some t)->K.get t=Kf.get t
 here:Ls.filter (getB l)∈St
 rows:(H,nx)=hs (Ls.filter (getB l))
theorem zHa{ops:List AOper}{i:Nat}(h:i<ops.length):ops.getD i default∈ops:=by rw[Wg,Wn h];exact List.getElem_mem h
theorem zyN{ops}{b}{Ls}{A}{St}{plan}{ks}(ok:DrawOk ops b Ls A St plan ks){l}(m:∀i,i<ops.length->getB l i=true->∀j∈b.getD i [],getB l j=true):∀(i:Nat),i<ops.length->(∀j∈b.getD i [],getB l j=true)->∀j∈A.getD i [],getB l j=true:=by
 intro i
 induction i using Wy with
 |_ i ih=>
  intro g hd j n;rcases ok.clo i g j n with h|⟨d,e,k⟩
  .exact hd j h
  .have c:=ok.low i g d e;exact ih d c (by omega) (m d (by omega) (hd d e)) j k
theorem zjm(K:Kn)(t:Nat):(K.drop []).get t=K.get t:=by rw[Kn.get_drop'];rfl
theorem zwr{Kf}{o}{H}{nx}{v}(u:o.fixed=true)(s:Yld P o Kf.get H nx v)(q:∀d,o.dst=some d->upd Kf.get o.dst v d=Kf.get d):zos P Kf o (H,nx) (H,nx):=by
 have h:=zlO (k:=λρ H2 nx2=>(∀d,o.dst=some d->ρ d=Kf.get d)/\H2=H/\nx2=nx) s ⟨q,rfl,rfl⟩;unfold zos zaP;simp only[awpT];unfold ExF at h;unfold ExK
 have conv:∀{v:AV}{H2:AH}{nx2:Nat},((∀d,o.dst=some d->upd Kf.get o.dst v d=Kf.get d)/\H2=H/\nx2=nx)->zxB Kf o.dst ((setO Kf o.dst v).drop [])/\H2=H/\nx2=nx:=λ{v H2 nx2} m=>by
  refine⟨?_,m.2⟩
  cases e:o.dst with
  |none=>trivial
  |some d=>have g:=m.1 d e;rw[e,<-zoa]at g;show Xa _ d=_;rw[zjm];exact g
 cases j:o.guard with
 |none=>rw[j]at h;exact zcM (λv H nx h=>conv h) h
 |some p=>
  obtain⟨t,c⟩:=p;rw[j]at h;simp only at h⊢
  cases n:grd c (Kf.get t)with
  |some b=>rw[n]at h;exact⟨λe=>zcM (λv H nx h=>conv h) (h.1 e),λe=>by simpa using conv (v:=.tup []) (H2:=H) (nx2:=nx) ⟨(h.2 e).1,rfl,rfl⟩⟩
  |none=>rw[n]at h;exact h
theorem zxG{Kf K}{o}{H}{nx}{b}(k:∀t∈o.looks,K.get t=Kf.get t)(h:zos P Kf o (H,nx) b):
  ExK P false o K H nx (λn c nx2=>zxB Kf o.dst n/\(∀t,o.dst≠some t->n.get t=K.get t)/\(c,nx2)=b):=by
 unfold zos zaP at h;simp only[awpT]at h
 have conv:∀{v:AV}{c:AH}{nx2:Nat},(zxB Kf o.dst ((setO Kf o.dst v).drop [])/\c=b.1/\nx2=b.2)->zxB Kf o.dst (setO K o.dst v)/\(∀t,o.dst≠some t->(setO K o.dst v).get t=K.get t)/\(c,nx2)=b:=λ{v c nx2} z=>by
  obtain⟨q,x,y⟩:=z;refine⟨?_,λt g=>?_,by rw[x,y]⟩
  .cases e:o.dst with
   |none=>trivial
   |some d=>rw[e]at q;have s:Xa _ d=_:=q;rw[zjm]at s;show Xa _ d=_;rw[<-s];simp only[setO,Xb,if_true]
  .cases e:o.dst with
   |none=>rfl
   |some d=>
    have:¬t=d:=λw=>g (by rw[e,w])
    simp only[setO,Xb,if_neg this]
 unfold ExK at *
 cases m:o.guard with
 |none=>rw[m]at h;simp only at h⊢;rw[zkx (ρ':=Kf.get) (λt g=>k t (zmv g))];exact zcM (λv H nx h=>conv h) h
 |some p=>
  obtain⟨t,j⟩:=p;rw[m]at h;simp only at h⊢;rw[k t (zkl m)]
  cases u:grd j (Kf.get t)with
  |some b=>rw[u]at h;refine⟨λe=>?_,λe=>conv (h.2 e)⟩;rw[zkx (ρ':=Kf.get) (λt g=>k t (zmv g))];exact zcM (λv H nx h=>conv h) (h.1 e)
  |none=>rw[u]at h;exact h
theorem zoq{ops}{Kf}{hs}:zxn P ops Kf hs []=True:=rfl
theorem zmq{ops}{Kf}{hs}{i}{S S'}{r}:zxn P ops Kf hs ((i,S,S')::r)=(zos P Kf (ops.getD i default) (hs S) (hs S')/\zxn P ops Kf hs r):=rfl
theorem zdM{Kf}{d}{v}:zxB Kf (some d) ((Kf.set d v).drop [])=(v=Kf.get d):=by show(((Kf.set d v).drop []).get d=Kf.get d)=_;rw[zjm,Xb,if_pos rfl]
theorem zcQ{Kf K}:zxB Kf none K=True:=rfl
def zBC(drop:List Nat):List (Nat×AV)->List (Nat×AV)
 |[]=>[]
 |(d,v)::r=>bif memN drop d then zBC drop r else(d,v)::zBC drop r
theorem zth{drop}{t}:∀ {vs:List (Nat×AV)},zsg (zBC drop vs) t=bif memN drop t then none else zsg vs t
 |[]=>by cases memN drop t<;>rfl
 |
  (d,v)::r=>by
  have c:=zth (drop:=drop) (t:=t) (vs:=r);simp only[zBC,zsg]
  cases hd:memN drop d with
  |true=>
   simp only[cond_true,c]
   cases b:memN drop t with
   |true=>rfl
   |false=>
    have:Wa d t=false:=za3 λe=>by rw[e,b]at hd;cases hd
    simp only[cond_false,this];cases zsg r t<;>rfl
  |false=>
   simp only[cond_false,zsg,c]
   cases b:memN drop t with
   |true=>
    have:Wa d t=false:=za3 λe=>by rw[e,b]at hd;cases hd
    simp only[cond_true,this,cond_false]
   |false=>simp only[cond_false]
theorem zG2{drop}{b kept}{K0}(h:zBC drop b=kept):KEq (zav (K0.drop drop) kept) ((zav K0 b).drop drop):=λt=>by
 rw[<-h,zf,zth,Kn.get_drop',zf]
 cases c:memN drop t with
 |true=>simp only[cond_true,zAA,Kn.get_drop',c]
 |false=>
  simp only[cond_false]
  cases zsg b t with
  |some v=>rfl
  |none=>simp only[zAA,Kn.get_drop',c,cond_false]
def hsOf(l:List (AH×Nat))(S:List Nat):AH×Nat:=l.getD S.length ([],0)
theorem zqC{ops:List AOper}{w:List (List Nat)}{drop:List Nat}{Q:QT}{F:Kn}{H0:AH}{V n:Nat}(k:List Nat)(A St:List (List Nat))(N:Plan)(O:List (Nat×AV))(W:List Nat->AH×Nat)(hc:zyX ops w k A St N (O.map (·.1))=true)(hn:n=ops.length)(h0:W []=(H0,V))(hq:QExt Q)(hp':∀(Kf:Kn)(hs':List Nat->AH×Nat),Kf=zav F O->hs'=W->zxn P ops Kf hs' N)(M:List (Nat×AV))(S:zBC drop O=M)(he:Q .normal (zav (F.drop drop) M) (W k).1 (W k).2) :
  zaP P (.tree (zd9 ops w n (Wj n false))) drop Q F H0 V:=by
 have ok:=zvX hc;have hp:=hp' _ _ rfl rfl;subst hn;have C:∀i,getB (Wj ops.length false) i=false:=λi=>by unfold getB;rw[Wg,Wu];split<;>rfl
 have noR:k.filter (getB (Wj ops.length false))=[]:=by rw[WF];intro i _;rw[C];simp
 have R:∀m,zhE (Wj m false)=m:=by
  intro m
  induction m with
  |zero=>rfl
  |succ m ih=>rw[WL,zhE,ih];simp;omega
 refine zz3 (DInv ops w k St (zav F O) W) ?_ ?_ ops.length _ F H0 V (by simp) (by rw[R];omega) ⟨λi _ h=>(by rw[C]at h;cases h),λi d _ h=>(by rw[C]at h;cases h),λt X=>?_,?_,?_⟩
 .intro l K H nx i hl c y U;obtain⟨hun,D⟩:=za5.1 U;have hA:=zyN ok c.clo i y D
  have hlk:∀t∈(ops.getD i default).looks,K.get t=(zav F O).get t:=λt X=>by
   rcases ok.look i y t X with ⟨j,I,hd⟩|h
   .have g:=hA j I;have hjn:j<ops.length:=by apply Xe;intro hcon;unfold getB at g;rw[Wg,Wz (by omega)]at g;cases g
    exact c.done j t hjn g hd
   .exact c.rest t h
  have s:zfe k A i (k.filter (getB l))=true:=by
   unfold zfe;simp only[Wc,WE,Wf,Wm];refine⟨?_,λm x=>?_,λm x=>?_⟩
   .cases q:memN (k.filter (getB l)) i with
    |false=>rfl
    |true=>have:=(Wi.1 ((zah _ _).1 q)).2;rw[hun]at this;cases this
   .cases q:memN (A.getD i []) m with
    |false=>exact .inl rfl
    |true=>exact .inr ((zah _ _).2 (Wi.2 ⟨x,hA m ((zah _ _).1 q)⟩))
   .obtain⟨hmL,hml⟩:=Wi.1 x
    cases q:memN (A.getD m []) i with
    |false=>rfl
    |true=>have:=zyN ok c.clo m (ok.lin m hmL) (c.clo m (ok.lin m hmL) hml) i ((zah _ _).1 q);rw[hun]at this;cases this
  have key:∃b,zos P (zav F O) (ops.getD i default) (H,nx) b/\b=W (k.filter (getB (l.set i true)))/\k.filter (getB (l.set i true))∈St:=by
   have p:i∉k->k.filter (getB (l.set i true))=k.filter (getB l):=λu=>by
    refine WA λm x=>?_
    rw[zfE (by omega),if_neg (λe:m=i=>u (by rw[<-e];exact x))]
   rcases ok.plan i y with ⟨hf,hse,u,ha⟩|⟨u,hk⟩|⟨hin,hk⟩
   .obtain⟨b,q⟩:=zv9 hp ha;refine⟨(H,nx),?_,by rw[p u];exact c.rows,by rw[p u];exact c.here⟩;unfold zos zaP at q;simp only[awpT]at q
    have J:=zt5 (k':=λρ H2 nx2=>∀d,(ops.getD i default).dst=some d->ρ d=(zav F O).get d) (λK2 H2 nx2 hh d e=>by
     have h3:=hh.1;rw[e]at h3;have h4:Xa _ d=_:=h3;rw[zjm]at h4
     exact h4) q
    obtain⟨v,hy,hv⟩:=znW hf J;exact zwr hf (zuK (H':=H) (nx':=nx) hse hy) hv
   .refine⟨(H,nx),?_,by rw[p u];exact c.rows,by rw[p u];exact c.here⟩;have:=zrU hp (hk _ c.here s);rw[<-c.rows]at this;exact this
   .have hnx:zmJ k i (k.filter (getB l))=k.filter (getB (l.set i true)):=by
     unfold zmJ;refine WA λm x=>?_
     rw[zfE (by omega)];by_cases B:m=i
     .subst B;simp[zbB]
     .rw[if_neg B,za3 B,WG]
      cases q:getB l m with
      |true=>exact(zah _ _).2 (Wi.2 ⟨x,q⟩)
      |false=>
       cases hb2:memN (k.filter (getB l)) m with
       |false=>rfl
       |true=>have:=(Wi.1 ((zah _ _).1 hb2)).2;rw[q]at this;cases this
    have J:=zrU hp (hk _ c.here s);have Y:=ok.stc _ c.here i hin s;rw[hnx]at J Y;rw[<-c.rows]at J;exact⟨_,J,rfl,Y⟩
  obtain⟨b,q,hbe,hbs⟩:=key;refine zyM (λK2 H2 nx2 hh=>?_) (zxG hlk q);obtain⟨J,Y,h3⟩:=hh;refine⟨?_,?_,?_,hbs,?_⟩
  .intro j I g m x;rw[zfE (by omega)]at g⊢;by_cases B:m=i
   .rw[if_pos B]
   .rw[if_neg B];by_cases z:j=i
    .subst z;exact D m x
    .rw[if_neg z]at g;exact c.clo j I g m x
  .intro j d I g hd;rw[zfE (by omega)]at g;by_cases z:j=i
   .subst z;rw[hd]at J;exact J
   .rw[if_neg z]at g;rw[Y d (λe=>z (ok.one j i d I y hd e))];exact c.done j d I g hd
  .intro t X;rw[Y t (X _ (zHa y))];exact c.rest t X
  .rw[<-hbe,h3]
 .intro l K H nx hl c T
  have L:∀i,i<ops.length->getB l i=true:=by
   intro i
   induction i using Wy with
   |_ i ih=>
    intro y;have:=T i y
    cases q:getB l i with
    |true=>rfl
    |false=>have U:zbC w l i=true:=za5.2 ⟨q,λj I=>ih j (ok.low i y j I) (by have:=ok.low i y j I;omega)⟩;rw[this]at U;cases U
  have hK:KEq (zav F O) K:=λt=>by
   by_cases h:∃o∈ops,o.dst=some t
   .obtain⟨o,ho,hd⟩:=h;obtain⟨i,y,he⟩:=WH.1 ho;have e:ops.getD i default=o:=by rw[Wg,Wn y,he];rfl
    exact(c.done i t y (L i y) (by rw[e];exact hd)).symm
   .exact(c.rest t (λo ho e=>h ⟨o,ho,e⟩)).symm
  have Z:k.filter (getB l)=k:=WM.2 (λm x=>L m (ok.lin m x));have U:=c.rows;rw[Z]at U;rw[<-U]at he;exact hq _ _ _ _ _ (λt=>(zG2 S t).trans (hK.drop drop t)) he
 .rw[zgz];intro x;obtain⟨o,ho,hd⟩:=ok.keys t x;exact X o ho hd
 .rw[noR];exact ok.st0
 .rw[noR];exact h0.symm
end
def AV.lt0(n:Nat):AV->Bool
 |.ptr r _ _ _ _=>Wd r n
 |.own r _ _ _ _=>Wd r n
 |.mp r _=>Wd r n
 |.it r=>Wd r n
 |.fn _ _ |.agg _ |.tup _=>false
 |_=>true
def AV.lt1(n:Nat):AV->Bool
 |.fn _ l=>l.all (AV.lt0 n)
 |.agg l=>l.all (AV.lt0 n)
 |.tup l=>l.all (AV.lt0 n)
 |a=>a.lt0 n
theorem AV.lt0_below{n}{a}(h:a.lt0 n=true):AV.Below n a:=by cases a<;>first|(cases h;done)|(constructor;done)|(constructor;exact Wq h)
theorem AV.lt1_below{n}{a}(h:a.lt1 n=true):AV.Below n a:=by cases a<;>first|exact AV.lt0_below h|(constructor;intro b c;exact AV.lt0_below (Wf.1 h b c))
def zpv(n:Nat)(b:List (List AV)):Prop:=∀c∈b,c.all (AV.lt0 n)=true
def zeJ(n:Nat):AH->Prop
 |[]=>True
 |(r,.row _ b _)::t=>(r<n/\zpv n b)/\zeJ n t
 |(r,.fam _ c)::t=>(r<n/\∀p∈c,zpv n p.1)/\zeJ n t
theorem zA5{n}{c}(h:zu c=true):c.all (AV.lt0 n)=true:=by
 induction c with
 |nil=>rfl
 |cons a c b=>simp only[zu,Wc]at h;simp only[List.all_cons,Wc];refine⟨?_,b h.2⟩;cases a<;>first|rfl|(have:=h.1;cases this;done)
theorem zcj{n}{b}(h:∀c∈b,zu c=true):zpv n b:=λc d=>zA5 (h c d)
theorem zcv{n}:∀{H:AH},zeJ n H->∀{r:Nat}{o:AObj},H.look r=some o->r<n/\∀q u b g,o.part q=some (.row u b g)->zpv n b
 |[],_,_,_,h=>by cases h
 |
  (j,.row s e g0)::t,h,r,o,hl=>by
  simp only[AH.look]at hl
  cases c:Wa j r with
  |true=>
   rw[c]at hl;simp only[cond_true,Ws]at hl;subst hl;rw[<-zj c];refine⟨h.1.1,λq u b g d=>?_⟩
   cases q with
   |zero=>simp only[AObj.part,Ws,AObj.row.injEq]at d;rw[<-d.2.1];exact h.1.2
   |succ q=>simp[AObj.part]at d
  |false=>rw[c]at hl;exact zcv h.2 hl
 |
  (j,.fam s ins)::t,h,r,o,hl=>by
  simp only[AH.look]at hl
  cases c:Wa j r with
  |true=>
   rw[c]at hl;simp only[cond_true,Ws]at hl;subst hl;rw[<-zj c];refine⟨h.1.1,λq u b g d=>?_⟩
   cases q with
   |zero=>simp[AObj.part]at d
   |succ i=>simp only[AObj.part]at d;obtain⟨p,k,m⟩:=WB.1 d;cases m;exact h.1.2 p (WC k)
  |false=>rw[c]at hl;exact zcv h.2 hl
theorem zgn{n}{H}(h:zeJ n H){r q d}{b}{g}(c:H.get r q=some (.row d b g)):r<n/\zpv n b:=by unfold AH.get at c;obtain⟨o,e,j⟩:=Option.bind_eq_some_iff.1 c;have:=zcv h e;exact⟨this.1,this.2 q d b g j⟩
theorem zoY{n}{H}(h:zeJ n H)(ι)(b):live (ι.upto n) H b↔live ι H b:=by
 constructor
 .rintro⟨r,q,m,c,g,l,e,d,j,k⟩;refine⟨r,q,m,c,g,l,e,?_,j,k⟩;simp only[Xc]at d;split at d
  .exact d
  .cases d
 .rintro⟨r,q,m,c,g,l,e,d,j,k⟩;exact⟨r,q,m,c,g,l,e,by simp only[Xc];rw[if_pos (zgn h e).1];exact d,j,k⟩
theorem RelH.low{w}{L}{ι}{H}{nx n}(rel:RelH w L ι H nx)(h:zeJ n H):RelH w L (ι.upto n) H n:=by
 have u:Lt L (ι.upto n) H=Lt L ι H:=by funext b;simp only[Lt,zoY h]
 constructor
 .intro r q A e g p;obtain⟨l,s,ok⟩:=rel.row r q A e g p;have z:=zgn h p;refine⟨l,by simp only[Xc];rw[if_pos z.1];exact s,ok.hsz,ok.wide,ok.plain,ok.spec,λi c j a x y=>?_⟩;obtain⟨v,t,k,m⟩:=ok.hold i c j a x y;rw[u];exact⟨v,t,k,m.upto (AV.lt0_below (Wf.1 (z.2 c (WC x)) a (WC y)))⟩
 .intro O M P N Q D I J R F B K s t k m;simp only[Xc]at k m;rw[if_pos (zgn h s).1]at k;rw[if_pos (zgn h t).1]at m;exact rel.apart _ _ _ _ _ _ _ _ _ _ _ _ s t k m
 .intro b C;exact rel.out b ((zoY h ι b).1 C)
 .intro r q g l d;simp only[Xc]at d;split at d
  .assumption
  .cases d
 .intro r o d;exact(zcv h d).1
 .intro r q A e g p B l d;simp only[Xc]at d;rw[if_pos (zgn h p).1]at d;exact rel.gen _ _ _ _ _ p _ _ d
 .exact rel.Lsz
theorem zGx{P}{f}{asv}{H}{nx}{k}(n)(s:We nx n=true)(h:zG P f asv H nx (λv d _=>(v.lt1 n=true/\zeJ n d)/\k v d n)):zG P f asv H nx k:=by
 intro w L ι y rel x;refine(h w L ι y rel x).mono λe z ⟨v,c,d,nx',a,h1,j,h3,h4,⟨t,m⟩,h7⟩=>?_
 refine⟨v,c.upto n,d,n,a,h1,⟨j.ext,λr q g l p=>?_,j.rel.low m,λb u=>j.lv b ((zoY m c b).1 u)⟩,Wq s,?_,h7⟩
 .simp only[Xc];rw[if_pos (WI (rel.idx _ _ _ _ p) (Wq s))];exact j.inj _ _ _ _ p
 .have o:Lt L (c.upto n) d=Lt L c d:=by funext b;simp only[Lt,zoY m]
  rw[o];exact h4.upto (AV.lt1_below t)
theorem zI{α:Type}{f:α->List AV}{l:List α}(h:∀a,zu (f a)=true):zr (l.map f):=λc b=>by obtain⟨a,_,rfl⟩:=Wp.1 b;exact h a
theorem za2{c}(h:zu c=true):zr [c]:=λd hd=>by rw[List.mem_singleton.1 hd];exact h
theorem zmB:zr []:=λd hd=>by cases hd
theorem zaD{c}{l}(h:zu c=true)(b:zr l):zr (c::l):=λd hd=>by
 rcases Wx.1 hd with rfl|hd
 .exact h
 .exact b d hd
theorem zmh{l m}(h:zr l)(b:zr m):zr (l++m):=λd hd=>by
 rcases List.mem_append.1 hd with hd|hd
 .exact h d hd
 .exact b d hd
theorem zt4{H HH}{σ}{D}{t}:∀{l:List AV},zu l=true->VwL H HH σ D t l l
 |[],_=>trivial
 |
  a::l,h=>by
  simp only[zu,Wc]at h;exact⟨zk h.1,zt4 h.2⟩
theorem RowV.of_flat{H HH}{σ}{D}{els}(h:zr els):RowV H HH σ D els els:=zj9 h
def hsAt:List (List Nat×AH×Nat)->List Nat->AH×Nat
 |[],_=>([],0)
 |(T,x)::r,S=>bif beqL T S then x else hsAt r S
theorem evA:type_of% @evS/\type_of% @evZ/\type_of% @evX/\type_of% @evK/\type_of% @evB/\type_of% @evL/\type_of% @evR:=⟨@evS,@evZ,@evX,@evK,@evB,@evL,@evR⟩
theorem evWA:type_of% @evW/\type_of% @evK/\type_of% @evB/\type_of% @evL:=⟨@evW,@evK,@evB,@evL⟩
theorem dis1{p:Prop}(h:p:=by first|omega|(simp only[evF,evL,implies_true,and_self];done)|fail):p:=h
def Im(q p:Prop):Prop:=q->p
theorem Im.i{α:Sort _}{q p:α->Prop}(h:∀x,Im (q x) (p x)):Im (∀x,q x) (∀x,p x):=λk x=>h x (k x)
theorem Im.a{q a b:Prop}(c:a)(h:Im q b):Im q (a/\b):=λk=>⟨c,h k⟩
theorem Im.r{p:Prop}:Im p p:=λh=>h
theorem m9A{a:Type}{l m:List a}:(l++m).length=l.length+m.length:=by simp
theorem m9P{a b:Type}{f:a->b}{l m:List a}:(l++m).map f=l.map f++m.map f:=by simp
theorem m9C{a b:Type}{f:a->b}{x:a}{l:List a}:(x::l).map f=f x::l.map f:=rfl
theorem m9N{a b:Type}{f:a->b}:([]:List a).map f=[]:=rfl
theorem aJ{a b:Prop}(d:b)(c:a:=by with_unfolding_all omega):a/\b:=⟨c,d⟩
theorem Gw0{p q:Prop}(k:q)(h:Im q p:=by(repeat first|simp(disch:=try exact dis1) only[evD,Nat.reduceBEq,Nat.reduceAdd,Nat.reduceLeDiff]|((with_reducible apply Im.i);intro _)|((with_reducible apply Im.a);omega));exact Im.r):p:=h k
theorem Gw1{b p q:Prop}(a0:b)(k:q)(h:b->Im q p:=by intro a0;(repeat first|simp(disch:=try exact dis1) only[evD,Nat.reduceBEq,Nat.reduceAdd,Nat.reduceLeDiff,a0]|((with_reducible apply Im.i);intro _)|((with_reducible apply Im.a);omega));exact Im.r):p:=h a0 k
theorem Gw2{c d p q:Prop}(a0:c)(b:d)(k:q)(h:c->d->Im q p:=by intro a0 b;(repeat first|simp(disch:=try exact dis1) only[evD,Nat.reduceBEq,Nat.reduceAdd,Nat.reduceLeDiff,a0,b]|((with_reducible apply Im.i);intro _)|((with_reducible apply Im.a);omega));exact Im.r):p:=h a0 b k
theorem Gw3{d e g p q:Prop}(a0:d)(b:e)(c:g)(k:q)(h:d->e->g->Im q p:=by intro a0 b c;(repeat first|simp(disch:=try exact dis1) only[evD,Nat.reduceBEq,Nat.reduceAdd,Nat.reduceLeDiff,a0,b,c]|((with_reducible apply Im.i);intro _)|((with_reducible apply Im.a);omega));exact Im.r):p:=h a0 b c k
theorem Gw4{d e g j p q:Prop}(a0:d)(b:e)(c:g)(a3:j)(k:q)(h:d->e->g->j->Im q p:=by intro a0 b c a3;(repeat first|simp(disch:=try exact dis1) only[evD,Nat.reduceBEq,Nat.reduceAdd,Nat.reduceLeDiff,a0,b,c,a3]|((with_reducible apply Im.i);intro _)|((with_reducible apply Im.a);omega));exact Im.r):p:=h a0 b c a3 k
theorem Gw5{d e g j m p q:Prop}(a0:d)(b:e)(c:g)(a3:j)(a4:m)(k:q)(h:d->e->g->j->m->Im q p:=by intro a0 b c a3 a4;(repeat first|simp(disch:=try exact dis1) only[evD,Nat.reduceBEq,Nat.reduceAdd,Nat.reduceLeDiff,a0,b,c,a3,a4]|((with_reducible apply Im.i);intro _)|((with_reducible apply Im.a);omega));exact Im.r):p:=h a0 b c a3 a4 k
theorem Gw6{d e g j m n p q:Prop}(a0:d)(b:e)(c:g)(a3:j)(a4:m)(a5:n)(k:q)(h:d->e->g->j->m->n->Im q p:=by intro a0 b c a3 a4 a5;(repeat first|simp(disch:=try exact dis1) only[evD,Nat.reduceBEq,Nat.reduceAdd,Nat.reduceLeDiff,a0,b,c,a3,a4,a5]|((with_reducible apply Im.i);intro _)|((with_reducible apply Im.a);omega));exact Im.r):p:=h a0 b c a3 a4 a5 k
theorem Gw7{e g j m n o s p q:Prop}(a0:e)(b:g)(c:j)(a3:m)(a4:n)(a5:o)(d:s)(k:q)(h:e->g->j->m->n->o->s->Im q p:=by intro a0 b c a3 a4 a5 d;(repeat first|simp(disch:=try exact dis1) only[evD,Nat.reduceBEq,Nat.reduceAdd,Nat.reduceLeDiff,a0,b,c,a3,a4,a5,d]|((with_reducible apply Im.i);intro _)|((with_reducible apply Im.a);omega));exact Im.r):p:=h a0 b c a3 a4 a5 d k
theorem Gw8{g j m n o s t u p q:Prop}(a0:g)(b:j)(c:m)(a3:n)(a4:o)(a5:s)(d:t)(e:u)(k:q)(h:g->j->m->n->o->s->t->u->Im q p:=by intro a0 b c a3 a4 a5 d e;(repeat first|simp(disch:=try exact dis1) only[evD,Nat.reduceBEq,Nat.reduceAdd,Nat.reduceLeDiff,a0,b,c,a3,a4,a5,d,e]|((with_reducible apply Im.i);intro _)|((with_reducible apply Im.a);omega));exact Im.r):p:=h a0 b c a3 a4 a5 d e k
theorem Gw9{j m n o s t u v w p q:Prop}(a0:j)(b:m)(c:n)(a3:o)(a4:s)(a5:t)(d:u)(e:v)(g:w)(k:q)(h:j->m->n->o->s->t->u->v->w->Im q p:=by intro a0 b c a3 a4 a5 d e g;(repeat first|simp(disch:=try exact dis1) only[evD,Nat.reduceBEq,Nat.reduceAdd,Nat.reduceLeDiff,a0,b,c,a3,a4,a5,d,e,g]|((with_reducible apply Im.i);intro _)|((with_reducible apply Im.a);omega));exact Im.r):p:=h a0 b c a3 a4 a5 d e g k
theorem Gw10{j m n o s t u v w x p q:Prop}(a0:j)(b:m)(c:n)(a3:o)(a4:s)(a5:t)(d:u)(e:v)(g:w)(a9:x)(k:q)(h:j->m->n->o->s->t->u->v->w->x->Im q p:=by intro a0 b c a3 a4 a5 d e g a9;(repeat first|simp(disch:=try exact dis1) only[evD,Nat.reduceBEq,Nat.reduceAdd,Nat.reduceLeDiff,a0,b,c,a3,a4,a5,d,e,g,a9]|((with_reducible apply Im.i);intro _)|((with_reducible apply Im.a);omega));exact Im.r):p:=h a0 b c a3 a4 a5 d e g a9 k
theorem Gw11{n o s t u v w x y z c p q:Prop}(a0:n)(d:o)(e:s)(a3:t)(a4:u)(a5:v)(g:w)(j:x)(m:y)(a9:z)(b:c)(k:q)(h:n->o->s->t->u->v->w->x->y->z->c->Im q p:=by intro a0 d e a3 a4 a5 g j m a9 b;(repeat first|simp(disch:=try exact dis1) only[evD,Nat.reduceBEq,Nat.reduceAdd,Nat.reduceLeDiff,a0,d,e,a3,a4,a5,g,j,m,a9,b]|((with_reducible apply Im.i);intro _)|((with_reducible apply Im.a);omega));exact Im.r):p:=h a0 d e a3 a4 a5 g j m a9 b k
theorem Gw12{s t u v w x y z A B d e p q:Prop}(a0:s)(g:t)(j:u)(a3:v)(a4:w)(a5:x)(m:y)(n:z)(o:A)(a9:B)(b:d)(c:e)(k:q)(h:s->t->u->v->w->x->y->z->A->B->d->e->Im q p:=by intro a0 g j a3 a4 a5 m n o a9 b c;(repeat first|simp(disch:=try exact dis1) only[evD,Nat.reduceBEq,Nat.reduceAdd,Nat.reduceLeDiff,a0,g,j,a3,a4,a5,m,n,o,a9,b,c]|((with_reducible apply Im.i);intro _)|((with_reducible apply Im.a);omega));exact Im.r):p:=h a0 g j a3 a4 a5 m n o a9 b c k
theorem Gw14{w x y z A B C D F H g j m n p q:Prop}(a0:w)(o:x)(s:y)(a3:z)(a4:A)(a5:B)(t:C)(u:D)(v:F)(a9:H)(b:g)(c:j)(d:m)(e:n)(k:q)(h:w->x->y->z->A->B->C->D->F->H->g->j->m->n->Im q p:=by intro a0 o s a3 a4 a5 t u v a9 b c d e;(repeat first|simp(disch:=try exact dis1) only[evD,Nat.reduceBEq,Nat.reduceAdd,Nat.reduceLeDiff,a0,o,s,a3,a4,a5,t,u,v,a9,b,c,d,e]|((with_reducible apply Im.i);intro _)|((with_reducible apply Im.a);omega));exact Im.r):p:=h a0 o s a3 a4 a5 t u v a9 b c d e k
theorem m9L{a:Type}{x:a}{l:List a}:(x::l).length=l.length+1:=rfl
theorem m9M{a b:Type}{f:a->b}{l:List a}:(l.map f).length=l.length:=by simp
theorem m9O{a:Type}:([]:List a).length=0:=rfl
theorem m9S{a:Type}{l:List a}{i:Nat}{x:a}:(l.set i x).length=l.length:=by simp
theorem gmp{a:Type}{l:List a}{i:Nat}(h:i<l.length):∀(f:a->List AV)(d:List AV),(l.map f).getD i d=f (l[i]'h):=λf d=>by simp[List.getD,h]
theorem fin1{p:Prop}(h:p:=by(repeat' with_reducible apply And.intro)<;>first|omega|exact zc4 rfl rfl (by omega)|exact zcd rfl rfl (by omega)|exact zoU rfl rfl (by omega)|exact zj9 (by repeat' first|exact bytes_flat|exact flat1|refine flat_app ?_ ?_)|exact ztG (λ_=>rfl)|exact zak (c:=cN) (λ_=>rfl) rfl|exact zb2 (λ_=>rfl) (by decide) ⟨rfl,rfl⟩ trivial|exact zb2 (λ_=>rfl) (by decide) (λ_ _=>⟨rfl,rfl⟩) trivial|(simp;done)|fail):p:=h
theorem Gin1_0{p:Prop}(h:p:=by(try simp only[evWB,Nat.reduceBEq,Nat.reduceAdd,Nat.reduceSub,Nat.reduceLeDiff,Nat.reduceLT,implies_true])<;>exact fin1):p:=h
theorem Gin1_1{b p:Prop}(a0:b)(h:b->p:=by intro a0;(try simp only[evWB,Nat.reduceBEq,Nat.reduceAdd,Nat.reduceSub,Nat.reduceLeDiff,Nat.reduceLT,implies_true,a0])<;>exact fin1):p:=h a0
theorem fin2{p:Prop}(h:p:=by((repeat' with_reducible apply And.intro)<;>first|omega|rfl|exact zt4 rfl|(refine RowV.of_flat ?_;(repeat' (first|exact zI (λ_=>rfl)|exact zI (λ_=>zt)|exact zI (λ_=>zm)|exact za2 zt|exact za2 zm|exact zom rfl|exact zmB|exact za2 rfl|refine zmh ?_ ?_|refine zaD rfl ?_|refine zaD zt ?_|refine zaD zm ?_));done)|((repeat' (first|exact zI (λ_=>rfl)|exact zI (λ_=>zt)|exact zI (λ_=>zm)|exact za2 zt|exact za2 zm|exact zom rfl|exact zmB|exact za2 rfl|refine zmh ?_ ?_|refine zaD rfl ?_|refine zaD zt ?_|refine zaD zm ?_));done)|exact zc4 rfl rfl (by omega)|exact zcd rfl rfl (by omega)|exact zoU rfl rfl (by omega)|exact ztG (λ_=>rfl)|exact zb2 (λ_=>rfl) (by decide) ⟨rfl,rfl⟩ trivial|exact zb2 (λ_=>rfl) (by decide) (λ_ _=>⟨rfl,rfl⟩) trivial|(simp;done)|fail)):p:=h
theorem Gin2_1{b p:Prop}(a0:b)(h:b->p:=by intro a0;(try simp only[evWB,Nat.reduceBEq,Nat.reduceAdd,Nat.reduceSub,Nat.reduceLeDiff,Nat.reduceLT,implies_true,a0])<;>exact fin2):p:=h a0
theorem Gin2_2{c d p:Prop}(a0:c)(b:d)(h:c->d->p:=by intro a0 b;(try simp only[evWB,Nat.reduceBEq,Nat.reduceAdd,Nat.reduceSub,Nat.reduceLeDiff,Nat.reduceLT,implies_true,a0,b])<;>exact fin2):p:=h a0 b
theorem Gin2_3{d e g p:Prop}(a0:d)(b:e)(c:g)(h:d->e->g->p:=by intro a0 b c;(try simp only[evWB,Nat.reduceBEq,Nat.reduceAdd,Nat.reduceSub,Nat.reduceLeDiff,Nat.reduceLT,implies_true,a0,b,c])<;>exact fin2):p:=h a0 b c
theorem Gin2_4{d e g j p:Prop}(a0:d)(b:e)(c:g)(a3:j)(h:d->e->g->j->p:=by intro a0 b c a3;(try simp only[evWB,Nat.reduceBEq,Nat.reduceAdd,Nat.reduceSub,Nat.reduceLeDiff,Nat.reduceLT,implies_true,a0,b,c,a3])<;>exact fin2):p:=h a0 b c a3
theorem Gin2_5{d e g j k p:Prop}(a0:d)(b:e)(c:g)(a3:j)(a4:k)(h:d->e->g->j->k->p:=by intro a0 b c a3 a4;(try simp only[evWB,Nat.reduceBEq,Nat.reduceAdd,Nat.reduceSub,Nat.reduceLeDiff,Nat.reduceLT,implies_true,a0,b,c,a3,a4])<;>exact fin2):p:=h a0 b c a3 a4
theorem Gin2_6{d e g j k m p:Prop}(a0:d)(b:e)(c:g)(a3:j)(a4:k)(a5:m)(h:d->e->g->j->k->m->p:=by intro a0 b c a3 a4 a5;(try simp only[evWB,Nat.reduceBEq,Nat.reduceAdd,Nat.reduceSub,Nat.reduceLeDiff,Nat.reduceLT,implies_true,a0,b,c,a3,a4,a5])<;>exact fin2):p:=h a0 b c a3 a4 a5
theorem Gin2_8{g j k m n o q s p:Prop}(a0:g)(b:j)(c:k)(a3:m)(a4:n)(a5:o)(d:q)(e:s)(h:g->j->k->m->n->o->q->s->p:=by intro a0 b c a3 a4 a5 d e;(try simp only[evWB,Nat.reduceBEq,Nat.reduceAdd,Nat.reduceSub,Nat.reduceLeDiff,Nat.reduceLT,implies_true,a0,b,c,a3,a4,a5,d,e])<;>exact fin2):p:=h a0 b c a3 a4 a5 d e
theorem Gin2_12{o q s t u v w x y z d e p:Prop}(a0:o)(g:q)(j:s)(a3:t)(a4:u)(a5:v)(k:w)(m:x)(n:y)(a9:z)(b:d)(c:e)(h:o->q->s->t->u->v->w->x->y->z->d->e->p:=by intro a0 g j a3 a4 a5 k m n a9 b c;(try simp only[evWB,Nat.reduceBEq,Nat.reduceAdd,Nat.reduceSub,Nat.reduceLeDiff,Nat.reduceLT,implies_true,a0,g,j,a3,a4,a5,k,m,n,a9,b,c])<;>exact fin2):p:=h a0 g j a3 a4 a5 k m n a9 b c
def zES(n:Nat)(p:AV)(H:AH):Bool :=
 match p with
 |
  .ptr r q g i f=>match H.get r q with
  |some (.row d b c)=>Wa g c&&(Wd i b.length&&We (f+n) d)
  |_=>false
 |.iptr m _=>We n m
 |_=>false
def zzQ(n:Nat)(p v:AV)(H:AH):Bool :=
 match p with
 |
  .ptr r q g i f=>match H.get r q with
  |some (.row d b c)=>Wa g c&&(Wd i b.length&&(We (f+n) d&&(v.solid&&Wa v.cells.length n)))
  |_=>false
 |_=>false
def idxS(c:Nat)(x i:AV)(H:AH):Bool :=
 match x,i with
 |.sl b n _,.int _ k=>Wa b c&&(decide (0<=k)&&decide (k<n))
 |
  .own r q g _ n,.int _ k=>match H.get r q with
  |some (.row b _ d)=>Wa b c&&(Wa g d&&(decide (0<=k)&&decide (k<n)))
  |_=>false
 |_,_=>false
def ztC(off n:Nat)(x:AV):Bool :=
 match x with
 |.ptr ..=>true
 |.iptr m _=>We (off+n) m
 |_=>false
def fldS(off n:Nat)(x:AV):Bool :=
 match x with
 |.agg b=>We (off+n) b.length
 |_=>false
def lenS(x:AV):Bool :=
 match x with
 |.sl .. |.own .. |.nilsl |.cut=>true
 |_=>false
def slenS(x:AV):Bool :=
 match x with
 |.str _=>true
 |_=>false
def binS(op:BinOp)(x y:AV):Bool :=
 match x,y with
 |
  .int k _,.int k' b=>match op with
  |.quo |.rem=>decide (k=k')&&decide (b≠0)
  |.shl |.shr=>decide (0<=b)
  |_=>decide (k=k')
 |_,_=>false
def eqbS(x y:AV):Bool :=
 match x,y with
 |.bool _,.bool _=>true
 |_,_=>false
def unS(op:UnOp)(x:AV):Bool :=
 match op,x with
 |.not,.bool _=>true
 |.neg,.int _ _=>true
 |_,_=>false
def convS(x:AV):Bool :=
 match x with
 |.int _ _=>true
 |_=>false
def zIL(c:AV):Bool :=
 match c with
 |.bool _=>true
 |_=>false
def zGW(n:Nat):List (Nat×Nat×AV)->Bool
 |[]=>true
 |(off,size,v)::r=>(v.solid&&(Wa v.cells.length size&&We (off+size) n))&&zGW n r
def setS(n b:Nat):List (Nat×AV)->Bool
 |[]=>true
 |(i,v)::r=>(v.solid&&(Wa v.cells.length b&&Wd i n))&&setS n b r
def mkslS(bytes:Nat)(l c:AV):Bool :=
 match l,c with
 |.int k n,.int b m=>decide (k=.i64)&&(decide (b=.i64)&&(decide (0<=n)&&(decide (n<=m)&&(decide (bytes*m<=140737488355328)&&Wd 0 bytes))))
 |_,_=>false
def loI:Option AV->Option Int
 |none=>some 0
 |some (.int _ k)=>some k
 |_=>none
def hiI(n:Nat):Option AV->Option Int
 |none=>some n
 |some (.int _ k)=>some k
 |_=>none
def zCU(h:Nat)(x:AV)(e d:Option AV)(H:AH):Bool :=
 match x with
 |
  .sl c n _=>match loI e,hiI n d with
  |some a,some b=>Wa c h&&(decide (0<=a)&&(decide (a<=b)&&decide (b<=n)))
  |_,_=>false
 |
  .own r q g _ n=>match H.get r q,loI e,hiI n d with
  |some (.row c _ j),some a,some b=>Wa c h&&(Wa g j&&(decide (0<=a)&&(decide (a<=b)&&decide (b<=n))))
  |_,_,_=>false
 |
  .nilsl=>match loI e,hiI 0 d with
  |some a,some b=>decide (a=0)&&decide (b=0)
  |_,_=>false
 |_=>false
def cutS(x:AV):Bool :=
 match x with
 |.sl _ _ _ |.own _ _ _ _ _ |.nilsl |.cut=>true
 |_=>false
def zBc(H:AH):AV->Bool
 |
  .own r q _ off n=>match H.get r q with
  |some (.row _ b _)=>We (off+n) b.length
  |_=>false
 |_=>true
def ztF(d bytes:Nat)(x y:AV)(H:AH):Bool :=
 match zcX d y H,lenV y with
 |
  some _,some m=>match x with
  |
   .own r q g off n=>match H.get r q with
   |some (.row c b e)=>Wa c d&&(Wa g e&&(We (off+n) b.length&&(zBc H y&&We ((n+m)*bytes) 140737488355328)))
   |_=>false
  |.nilsl |.cut=>zBc H y&&We (m*bytes) 140737488355328
  |_=>false
 |_,_=>false
def zD5(e:Nat)(x:AV)(H:AH):Bool :=
 match x with
 |
  .own r q g off n=>match H.get r q with
  |some (.row c b d)=>Wa c e&&(Wa g d&&We (off+n) b.length)
  |_=>false
 |_=>false
def extS(i:Nat)(x:AV):Bool :=
 match x with
 |.tup b=>Wd i b.length
 |_=>false
def keyS:Option IntKind->AV->Bool
 |some q,.int k _=>decide (q=k)
 |none,.str _=>true
 |_,_=>false
def xopS:XOp->List AV->AH->Bool
 |
  .mark,[.own r q g _ n],H=>match H.get r q with
  |some (.row d _ o)=>Wa d 1&&(Wa g o&&Wd 0 n)
  |_=>false
 |.nilck,[.ptr ..],_=>true
 |.nilck,[.iptr ..],_=>true
 |.seq _,[.str _,.str _],_=>true
 |.sidx,[.str s,.int _ k],_=>decide (0<=k)&&decide (k<s.size)
 |
  .b2s,[x],H=>match zcX 1 x H with
  |some h=>(zgi h).isSome&&(zBc H x&&(lenV x).isSome)
  |none=>false
 |.s2b,[.str _],_=>true
 |
  .sapp,[.own r q g off n,.str s],H=>match H.get r q with
  |some (.row e h o)=>Wa e 1&&(Wa g o&&(We (off+n) h.length&&We (n+s.size) 140737488355328))
  |_=>false
 |.sapp,[.nilsl,.str s],_=>We s.size 140737488355328
 |.sapp,[.cut,.str s],_=>We s.size 140737488355328
 |.min,[.int k _,.int p _],_=>decide (k=p)
 |.max,[.int k _,.int p _],_=>decide (k=p)
 |.eqs _ u,[.agg a,.agg b],_=>(zH u a b).isSome
 |.sl3 d,[.sl e n _,.int _ b,.int _ c],_=>Wa e d&&(decide (0<=b)&&(decide (b<=c)&&decide (c<=n)))
 |
  .sl3 d,[.own r q g _ n,.int _ b,.int _ c],H=>match H.get r q with
  |some (.row e _ o)=>Wa e d&&(Wa g o&&(decide (0<=b)&&(decide (b<=c)&&decide (c<=n))))
  |_=>false
 |.sl3 _,[.nilsl,.int _ b,.int _ c],_=>decide (b=0)&&decide (c=0)
 |.capn,[.nilsl],_=>true
 |.apz d bytes _,[.nilsl,.int _ n],_=>decide (0<=n)&&(decide (n*bytes<=140737488355328)&&(Wd 0 d&&Wd 0 bytes))
 |.mkmap,[],_=>true
 |.mlook str _ _,[.nilmp,k],_=>keyS str k
 |
  .mlook str _ _,[.mp r q,k],H=>match H.get r q with
  |some (.row d (_::j) g)=>(zeu k j 0).isSome&&(Wa d 3&&(Wa g 0&&keyS str k))
  |_=>false
 |
  .mset str,[.mp r q,k,_],H=>match H.get r q with
  |some (.row d ([.int .i64 c,_,_]::j) g)=>(zeu k j 0).isSome&&(Wa d 3&&(Wa g 0&&(keyS str k&&decide (c<9223372036854775807))))
  |_=>false
 |.mlen,[.nilmp],_=>true
 |
  .mlen,[.mp r q],H=>match H.get r q with
  |some (.row d (_::j) g)=>Wa d 3&&(Wa g 0&&We j.length big)
  |_=>false
 |.mdel str,[.nilmp,k],_=>keyS str k
 |
  .mdel str,[.mp r q,k],H=>match H.get r q with
  |some (.row d (_::j) g)=>(zeu k j 0).isSome&&(Wa d 3&&(Wa g 0&&keyS str k))
  |_=>false
 |.mrange,[.nilmp],_=>true
 |
  .mrange,[.mp r q],H=>match H.get r q with
  |some (.row d ([.int .i64 _,_,_]::_) g)=>Wa d 3&&Wa g 0
  |_=>false
 |.aidx len d _,[.agg t,.int _ k],_=>decide (0<=k)&&(decide (k<len)&&We (len*d) t.length)
 |.aaddr len _,[.ptr ..,.int _ k],_=>decide (0<=k)&&decide (k<len)
 |.aaddr len d,[.iptr m _,.int _ k],_=>decide (0<=k)&&(decide (k<len)&&We (len*d) m)
 |_,_,_=>false
def zlz:AOp->(Nat->AV)->AH->Bool
 |.mov _,_,_=>true
 |.mknil _,_,_=>true
 |.pick c _ _,K,_=>zIL (ev K c)
 |.load _ n p,K,H=>zES n (ev K p) H
 |.store n p v,K,H=>zzQ n (ev K p) (ev K v) H
 |.idx b x i,K,H=>idxS b (ev K x) (ev K i) H
 |.fldaddr off n x,K,_=>ztC off n (ev K x)
 |.fld off n _ x,K,_=>fldS off n (ev K x)
 |.len x,K,_=>lenS (ev K x)
 |.slen x,K,_=>slenS (ev K x)
 |.bin op x y,K,_=>binS op (ev K x) (ev K y)
 |.eqb _ x y,K,_=>eqbS (ev K x) (ev K y)
 |.un op x,K,_=>unS op (ev K x)
 |.conv _ x,K,_=>convS (ev K x)
 |.build zero parts,K,_=>zGW zero.length (zev K parts)
 |.buildSl b len _ parts,K,_=>setS len b (zj3 K parts)
 |.box x,K,_=>(ev K x).solid
 |.rbox x,K,_=>(ev K x).solid&&zu (ev K x).cells
 |.rbuildSl b len z parts,K,_=>setS len b (zj3 K parts)&&(zdy (Wj len z) (zj3 K parts)).all zu
 |.alloc _,_,_=>true
 |.mksl _ bytes _ l c,K,_=>mkslS bytes (ev K l) (ev K c)
 |.slice b x e d,K,H=>zCU b (ev K x) (evO K e) (evO K d) H
 |.cut x,K,_=>cutS (ev K x)
 |.mkfn _ _,_,_=>true
 |.append b bytes x y,K,H=>ztF b bytes (ev K x) (ev K y) H
 |.clear b _ x,K,H=>zD5 b (ev K x) H
 |.ext i x,K,_=>extS i (ev K x)
 |.xop x args,K,H=>xopS x (evs K args) H
 |_,_,_=>false
theorem beqT{a b}(h:Wa a b=true):a=b:=zj h
theorem bltT{a b}(h:Wd a b=true):a<b:=Wq h
theorem bleT{a b}(h:We a b=true):a<=b:=Wq h
theorem zok{H}{y}(h:zBc H y=true):fits H y:=by
 unfold zBc at h;unfold fits;split at h
 .split at h
  .rename_i e;simp only[e];exact bleT h
  .cases h
 .rename_i b;split
  .rename_i r q g off n;exact absurd rfl (b r q g off n)
  .trivial
theorem zz9{n}:∀ {l:List (Nat×Nat×AV)},zGW n l=true->zrT n l
 |[],_=>trivial
 |
  (off,size,v)::r,h=>by
  simp only[zGW,Wc]at h;exact⟨⟨h.1.1,beqT h.1.2.1,bleT h.1.2.2⟩,zz9 h.2⟩
theorem zx2{n sz}:∀ {l:List (Nat×AV)},setS n sz l=true->zoQ n sz l
 |[],_=>trivial
 |
  (i,v)::r,h=>by
  simp only[setS,Wc]at h;exact⟨⟨h.1.1,beqT h.1.2.1,bltT h.1.2.2⟩,zx2 h.2⟩
theorem znB{k}{v}(h:keyS k v=true):zha k v:=by
 unfold keyS at h;split at h
 .rename_i q k n;exact(of_decide_eq_true h:q=k)
 .trivial
 .cases h
theorem zy7{agg}{n}{p}{H}{nx}(h:zES n p H=true):(zdX agg n p H nx).side:=by
 unfold zES at h;unfold zdX;split at h
 .split at h
  .rename_i e;simp only[e];simp only[Wc]at h;exact⟨beqT h.1,bltT h.2.1,bleT h.2.2⟩
  .cases h
 .exact bleT h
 .cases h
theorem zDH{n}{p v}{H}{nx}(h:zzQ n p v H=true):(zfs n p v H nx).side:=by
 unfold zzQ at h;unfold zfs;split at h
 .split at h
  .rename_i e;simp only[e];simp only[Wc]at h;exact⟨beqT h.1,bltT h.2.1,bleT h.2.2.1,h.2.2.2.1,beqT h.2.2.2.2⟩
  .cases h
 .cases h
theorem zJA{sz}{x i}{H}{nx}(h:idxS sz x i H=true):(idxR sz x i H nx).side:=by
 unfold idxS at h;unfold idxR;split at h
 .simp only[Wc,decide_eq_true_eq]at h;exact⟨beqT h.1,h.2.1,h.2.2⟩
 .split at h
  .rename_i e;simp only[e];simp only[Wc,decide_eq_true_eq]at h;exact⟨beqT h.1,beqT h.2.1,h.2.2.1,h.2.2.2⟩
  .cases h
 .cases h
theorem zIv{op}{x y}{H}{nx}(h:binS op x y=true):(binI op x y H nx).side:=by
 unfold binS at h;unfold binI;split at h
 .cases op<;>simp only[Wc,decide_eq_true_eq]at h<;>exact h
 .cases h
theorem zCh{d}{x}{lo hi}{H}{nx}(h:zCU d x lo hi H=true):(zfQ d x lo hi H nx).side:=by
 unfold zCU at h
 cases x with
 |sl c n f=>
  simp only at h;split at h
  .rename_i a b e k;simp only[Wc,decide_eq_true_eq]at h;have:(zfQ d (.sl c n f) lo hi H nx).side=(match loI lo,hiI n hi with|some a,some b=>(⟨c=d/\0<=a/\a<=b/\b<=n,True,.sl d (b-a).toNat (λi j=>f (a.toNat+i) j),H,nx⟩:ORes)|_,_=>bad H nx).side:=rfl;rw[this,e,k];exact⟨beqT h.1,h.2.1,h.2.2.1,h.2.2.2⟩
  .cases h
 |own r q g off n=>
  simp only at h;split at h
  .rename_i c p m a b e k o;simp only[Wc,decide_eq_true_eq]at h;have:(zfQ d (.own r q g off n) lo hi H nx).side=(match H.get r q,loI lo,hiI n hi with|some (.row c _ m),some a,some b=>(⟨c=d/\g=m/\0<=a/\a<=b/\b<=n,True,.own r q g (off+a.toNat) (b-a).toNat,H,nx⟩:ORes)|_,_,_=>bad H nx).side:=rfl;rw[this,e,k,o];exact⟨beqT h.1,beqT h.2.1,h.2.2.1,h.2.2.2.1,h.2.2.2.2⟩
  .cases h
 |nilsl=>
  simp only at h;split at h
  .rename_i a b e k;simp only[Wc,decide_eq_true_eq]at h;have:(zfQ d .nilsl lo hi H nx).side=(match loI lo,hiI 0 hi with|some a,some b=>(⟨a=0/\b=0,True,.nilsl,H,nx⟩:ORes)|_,_=>bad H nx).side:=rfl;rw[this,e,k];exact⟨h.1,h.2⟩
  .cases h
 |_=>cases h
theorem zBJ{sz bytes}{x y}{H}{nx}(h:ztF sz bytes x y H=true):(zeX sz bytes x y H nx).side:=by
 unfold ztF at h;unfold zeX;split at h
 .rename_i b c;simp only[b,c];split at h
  .split at h
   .rename_i d;simp only[d];simp only[Wc]at h;exact⟨beqT h.1,beqT h.2.1,bleT h.2.2.1,zok h.2.2.2.1,bleT h.2.2.2.2⟩
   .cases h
  .simp only[Wc]at h;exact⟨zok h.1,bleT h.2⟩
  .simp only[Wc]at h;exact⟨zok h.1,bleT h.2⟩
  .cases h
 .cases h
theorem zDS{sz}{zero}{x}{H}{nx}(h:zD5 sz x H=true):(zii sz zero x H nx).side:=by
 unfold zD5 at h;unfold zii;split at h
 .split at h
  .rename_i e;simp only[e];simp only[Wc]at h;exact⟨beqT h.1,beqT h.2.1,bleT h.2.2⟩
  .cases h
 .cases h
theorem zJD{x}{l}{H}{nx}(h:xopS x l H=true):(xopR x l H nx).side:=by
 unfold xopS at h;split at h
 .split at h
  .rename_i e;simp only[Wc]at h;simp only[xopR,zqq,e];exact⟨beqT h.1,beqT h.2.1,bltT h.2.2⟩
  .cases h
 .trivial
 .trivial
 .trivial
 .simp only[Wc,decide_eq_true_eq]at h;exact⟨h.1,h.2⟩
 .split at h
  .rename_i e;simp only[Wc]at h;obtain⟨l,g⟩:=Wv.1 h.1;simp only[xopR,b2sR,e,g];exact⟨zok h.2.1,h.2.2⟩
  .cases h
 .trivial
 .split at h
  .rename_i e;simp only[Wc]at h;simp only[xopR,zpw,e];exact⟨beqT h.1,beqT h.2.1,bleT h.2.2.1,bleT h.2.2.2⟩
  .cases h
 .exact bleT h
 .exact bleT h
 .rename_i k a d b;exact(of_decide_eq_true h:k=d)
 .rename_i k a d b;exact(of_decide_eq_true h:k=d)
 .obtain⟨t,c⟩:=Wv.1 h;simp only[xopR,eqsR,c]
 .simp only[Wc,decide_eq_true_eq]at h;exact⟨beqT h.1,h.2.1,h.2.2.1,h.2.2.2⟩
 .split at h
  .rename_i e;simp only[Wc,decide_eq_true_eq]at h;simp only[xopR,sl3R,e];exact⟨beqT h.1,beqT h.2.1,h.2.2.1,h.2.2.2.1,h.2.2.2.2⟩
  .cases h
 .simp only[Wc,decide_eq_true_eq]at h;exact⟨h.1,h.2⟩
 .trivial
 .simp only[Wc,decide_eq_true_eq]at h;exact⟨h.1,h.2.1,bltT h.2.2.1,bltT h.2.2.2⟩
 .trivial
 .exact znB h
 .split at h
  .rename_i e;simp only[Wc]at h;obtain⟨t,c⟩:=Wv.1 h.1;simp only[xopR,ziX,e,c];exact⟨beqT h.2.1,beqT h.2.2.1,znB h.2.2.2⟩
  .cases h
 .split at h
  .rename_i e;simp only[Wc,decide_eq_true_eq]at h;obtain⟨t,c⟩:=Wv.1 h.1;simp only[xopR,zmT,e,c]
   cases t with
   |none=>exact⟨beqT h.2.1,beqT h.2.2.1,znB h.2.2.2.1,h.2.2.2.2⟩
   |some p=>exact⟨beqT h.2.1,beqT h.2.2.1,znB h.2.2.2.1⟩
  .cases h
 .trivial
 .split at h
  .rename_i e;simp only[Wc]at h;simp only[xopR,zqO,e];exact⟨beqT h.1,beqT h.2.1,bleT h.2.2⟩
  .cases h
 .exact znB h
 .split at h
  .rename_i e;simp only[Wc]at h;obtain⟨t,c⟩:=Wv.1 h.1;simp only[xopR,zqg,e,c]
   cases t with
   |none=>exact⟨beqT h.2.1,beqT h.2.2.1,znB h.2.2.2⟩
   |some p=>exact⟨beqT h.2.1,beqT h.2.2.1,znB h.2.2.2⟩
  .cases h
 .trivial
 .split at h
  .rename_i e;simp only[Wc]at h;simp only[xopR,zhk,e];exact⟨beqT h.1,beqT h.2⟩
  .cases h
 .simp only[Wc,decide_eq_true_eq]at h;exact⟨h.1,h.2.1,bleT h.2.2⟩
 .simp only[Wc,decide_eq_true_eq]at h;exact h
 .simp only[Wc,decide_eq_true_eq]at h;exact⟨h.1,h.2.1,bleT h.2.2⟩
 .cases h
theorem zFQ{op}{K}{H}{nx}(h:zlz op K H=true):(aop op K H nx).side:=by
 cases op with
 |mov|mknil|alloc|mkfn=>trivial
 |load a n p=>exact zy7 h
 |store n p v=>exact zDH h
 |idx s x i=>exact zJA h
 |slice s x m j=>exact zCh h
 |append s b x y=>exact zBJ h
 |clear s z x=>exact zDS h
 |bin op x y=>exact zIv h
 |xop x t=>exact zJD h
 |build z e=>exact zz9 h
 |buildSl s l z e=>exact zx2 h
 |rbuildSl s l z e=>simp only[zlz,Wc]at h;exact⟨zx2 h.1,h.2⟩
 |box x=>exact h
 |rbox x=>simp only[zlz,Wc]at h;exact h
 |mksl s b z l c=>
  simp only[zlz,mkslS]at h;simp only[aop,zkS];generalize ev K l=ul at h⊢;generalize ev K c=g at h⊢;split at h
  .simp only[Wc,decide_eq_true_eq]at h;exact⟨h.1,h.2.1,h.2.2.1,h.2.2.2.1,h.2.2.2.2.1,bltT h.2.2.2.2.2⟩
  .cases h
 |pick c x y=>
  simp only[zlz,zIL]at h;simp only[aop,zkN];generalize ev K c=g at h⊢;split at h
  .trivial
  .cases h
 |fldaddr o n x=>
  simp only[zlz,ztC]at h;simp only[aop,zcF];generalize ev K x=d at h⊢;split at h
  .trivial
  .exact bleT h
  .cases h
 |fld o n a x=>
  simp only[zlz,fldS]at h;simp only[aop,fldR];generalize ev K x=d at h⊢;split at h
  .exact bleT h
  .cases h
 |len x=>simp only[zlz,lenS]at h;simp only[aop,lenR];generalize ev K x=d at h⊢;split at h<;>first|trivial|cases h
 |slen x=>simp only[zlz,slenS]at h;simp only[aop,zrq];generalize ev K x=d at h⊢;split at h<;>first|trivial|cases h
 |eqb n x y=>simp only[zlz,eqbS]at h;simp only[aop,eqB];generalize ev K x=d at h⊢;generalize ev K y=q at h⊢;split at h<;>first|trivial|cases h
 |un o x=>simp only[zlz,unS]at h;simp only[aop,unR];generalize ev K x=d at h⊢;split at h<;>first|trivial|cases h
 |conv k x=>simp only[zlz,convS]at h;simp only[aop,zlD];generalize ev K x=d at h⊢;split at h<;>first|trivial|cases h
 |cut x=>simp only[zlz,cutS]at h;simp only[aop,cutR];generalize ev K x=d at h⊢;split at h<;>first|trivial|cases h
 |ext i x=>
  simp only[zlz,extS]at h;simp only[aop,extR];generalize ev K x=d at h⊢;split at h
  .exact bltT h
  .cases h
 |_=>cases h
def frzV:Nat->AH->AV->AV
 |0,_,_=>.undef
 |
  d+1,H,v=>match v with
  |
   .own r q g off n=>match H.get r q with
   |some (.row c b e)=>bif Wa g e&&(We n big&&We (off+n) b.length)then .sl c n (λi j=>frzV d H ((b.getD (off+i) []).getD j .undef))else .undef
   |_=>.undef
  |
   .ptr r q g i o=>match H.get r q with
   |some (.row c b e)=>bif Wa g e&&(Wd i b.length&&We o c)then .iptr (c-o) (λj=>frzV d H ((b.getD i []).getD (o+j) .undef))else .undef
   |_=>.undef
  |.agg l=>.agg (l.map (frzV d H))
  |.tup l=>.tup (l.map (frzV d H))
  |.fn f l=>.fn f (l.map (frzV d H))
  |.mp _ _=>.undef
  |.it _=>.undef
  |.nilmp=>.undef
  |v=>v
theorem zlv{H}:∀(d:Nat)(v:AV),Frz H v (frzV d H v)
 |0,v=>.undef _ _
 |
  d+1,v=>by
  unfold frzV
  cases v with
  |own r q g off n=>
   simp only;split
   .rename_i p h t e
    cases m:Wa g t&&(We n big&&We (off+n) h.length)with
    |false=>exact .undef _ _
    |true=>simp only[Wc]at m;have u:=beqT m.1;subst u;exact .frz _ r q g off n p h _ trivial e (bleT m.2.1) (bleT m.2.2) λi j _ _=>zlv d _
   .exact .undef _ _
  |ptr r q g i o=>
   simp only;split
   .rename_i p h t e
    cases m:Wa g t&&(Wd i h.length&&We o p)with
    |false=>exact .undef _ _
    |true=>simp only[Wc]at m;have u:=beqT m.1;subst u;have k:=bleT m.2.2;exact .frzp _ r q g i o (p-o) p h _ trivial e (bltT m.2.1) (by omega) λj _=>zlv d _
   .exact .undef _ _
  |agg l=>
   refine .agg _ _ _ (by simp) λi a b s k=>?_
   rw[Wt,s]at k;cases k;exact zlv d a
  |tup l=>
   refine .tup _ _ _ (by simp) λi a b s k=>?_
   rw[Wt,s]at k;cases k;exact zlv d a
  |fn f l=>
   refine .fn _ _ _ _ (by simp) λi a b s k=>?_
   rw[Wt,s]at k;cases k;exact zlv d a
  |undef=>exact .undef _ _
  |int=>exact .int _ _ _
  |bool=>exact .bool _ _
  |str=>exact .str _ _
  |nilp=>exact .nilp _
  |iptr n c=>exact .iptr _ _ _
  |sl p n f=>exact .sl _ _ _ _
  |nilsl=>exact .nilsl _
  |cut=>exact .cut _
  |nilfn=>exact .nilfn _
  |mp|it|nilmp=>exact .undef _ _
abbrev zbN:=FuncId->List AV->AH->Nat->Option (AV×AH×Nat)
def zbN.Sound(P:Program)(call:zbN):Prop:=∀f args H nx r,call f args H nx=some r->zG P f args H nx (λv c b=>(v,c,b)=r)
def zEs(call:zbN)(f:FuncId)(args:List AV)(H:AH):Option AV :=
 bif args.all AV.flat then
  match call f args [] 0 with
  |some (v,b,_)=>some (frzV 9 b v)
  |none=>none
 else
  match call f (args.map (frzV 9 H)) [] 0 with
  |some (v,b,_)=>bif (frzV 9 b v).scal then some (frzV 9 b v)else none
  |none=>none
def zrV(P:Program)(call:zbN)(op:AOp)(ρ:Nat->AV)(H:AH)(nx:Nat):Option (AV×AH×Nat) :=
 match op with
 |.call f args=>call f (evs ρ args) H nx
 |
  .callq f args=>match zEs call f (evs ρ args) H with
  |some v=>some (v,H,nx)
  |none=>none
 |
  .isnil neg p x=>match nilB p (ev ρ x)with
  |some (some b)=>some (.bool (b != neg),H,nx)
  |_=>none
 |.mnext _=>none
 |.append2 ..=>none
 |
  .callv x args=>match ev ρ x with
  |.fn (.func f) c=>bif ze7 P f then call f (evs ρ args++c) H nx else none
  |_=>none
 |op=>bif zlz op ρ H then some ((aop op ρ H nx).v,(aop op ρ H nx).H,(aop op ρ H nx).nx)else none
theorem zyY{H}:∀(l:List AV),Lend H allR l (l.map (frzV 9 H))
 |[]=>.nil
 |a::l=>.cons (zlv 9 a) (zyY l)
theorem zB6{P}{call:zbN}(k:call.Sound P){f}{args}{H}{nx}{v}(h:zEs call f args H=some v):zds P f args H nx v:=by
 unfold zEs at h
 cases c:args.all AV.flat with
 |true=>
  rw[c]at h;simp only[cond_true]at h;split at h
  .rename_i v0 j g e;cases h;refine zh ?_ c;exact(k f args [] 0 _ e).mono λv1 m nx1 b=>by cases b;exact⟨_,zlv 9 _,rfl⟩
  .cases h
 |false=>
  rw[c]at h;simp only[cond_false]at h;split at h
  .rename_i v0 j g e
   cases d:(frzV 9 j v0).scal with
   |false=>rw[d]at h;cases h
   |true=>rw[d]at h;cases h;refine zaQ (D:=allR) ?_ (zyY args) (.inl d);exact(k f _ [] 0 _ e).mono λv1 m nx1 b=>by cases b;exact⟨_,zlv 9 _,rfl⟩
  .cases h
theorem zty{P}{call:zbN}(m:call.Sound P){fx}{op}{ρ}{H}{nx}{r}{k}(h:zrV P call op ρ H nx=some r)(d:k r.1 r.2.1 r.2.2):
  zcA P fx op ρ H nx k:=by
 have key:∀c:AOp,(bif zlz c ρ H then some ((aop c ρ H nx).v,(aop c ρ H nx).H,(aop c ρ H nx).nx)else none)=some r->zm2 fx (aop c ρ H nx) k:=λc h=>by
  cases g:zlz c ρ H with
  |false=>rw[g]at h;cases h
  |true=>rw[g]at h;simp only[cond_true,Ws]at h;subst h;exact⟨zFQ g,λ_=>d⟩
 cases op with
 |call f args=>exact(m f _ H nx r h).mono λv q n e _=>by subst e;exact d
 |callq f args=>
  simp only[zrV]at h;split at h
  .rename_i v e;cases h;exact⟨v,zB6 m e,d⟩
  .cases h
 |mnext x=>cases h
 |append2 s b x y=>cases h
 |isnil neg p x=>
  simp only[zrV]at h;simp only[zcA];split at h
  .rename_i b e;cases h;rw[e];exact d
  .cases h
 |callv x args=>
  simp only[zrV]at h;simp only[zcA];split at h
  .rename_i f o e
   cases j:ze7 P f with
   |false=>rw[j]at h;cases h
   |true=>rw[j]at h;rw[e];exact⟨j,(m f _ H nx r h).mono λv q n e _=>by subst e;exact d⟩
  .cases h
 |_=>exact key _ h
abbrev St3:=Kn×AH×Nat
def oneX(P:Program)(call:zbN)(o:AOper)(K:Kn)(H:AH)(nx:Nat):Option St3 :=
 match o.guard with
 |
  none=>match zrV P call o.op K.get H nx with
  |some (v,c,b)=>some (setO K o.dst v,c,b)
  |none=>none
 |
  some (t,want)=>match grd want (K.get t)with
  |
   some true=>match zrV P call o.op K.get H nx with
   |some (v,c,b)=>some (setO K o.dst v,c,b)
   |none=>none
  |some false=>some (setO K o.dst (.tup []),H,nx)
  |none=>none
theorem zyt{P}{call:zbN}(n:call.Sound P){fx}{o}{K}{H}{nx}{r:St3}{k}(h:oneX P call o K H nx=some r)(g:k r.1 r.2.1 r.2.2):ExK P fx o K H nx k:=by
 unfold oneX at h;unfold ExK
 cases m:o.guard with
 |none=>
  rw[m]at h;simp only at h⊢;split at h
  .rename_i v s j e;cases h;exact zty n e g
  .cases h
 |some p=>
  obtain⟨t,c⟩:=p;rw[m]at h;simp only at h⊢
  cases q:grd c (K.get t)with
  |none=>rw[q]at h;cases h
  |some b=>
   rw[q]at h
   cases b with
   |true=>
    simp only at h;split at h
    .rename_i v s j e;cases h;exact⟨λ_=>zty n e g,λd=>(by cases d)⟩
    .cases h
   |false=>cases h;exact⟨λd=>(by cases d),λ_=>g⟩
def zDu(P:Program)(call:zbN):List AOper->Kn->AH->Nat->Option St3
 |[],K,H,nx=>some (K,H,nx)
 |
  o::os,K,H,nx=>match oneX P call o K H nx with
  |some (d,c,b)=>zDu P call os d c b
  |none=>none
theorem zza{P}{call:zbN}(c:call.Sound P){drop}{Q}:∀{b:List AOper}{K:Kn}{H:AH}{nx:Nat}{r:St3},zDu P call b K H nx=some r->Q .normal (r.1.drop drop) r.2.1 r.2.2->aops P b drop Q K H nx
 |
  [],K,H,nx,r,h,hq=>by
  cases h;exact hq
 |
  o::b,K,H,nx,r,h,hq=>by
  simp only[zDu]at h;split at h
  .rename_i j g d e;exact zyt c e (zza c h hq)
  .cases h
def zpE(P:Program)(call:zbN):DTree->Kn->AH->Nat->Option St3
 |.done,K,H,nx=>some (K,H,nx)
 |.stop,_,_,_=>none
 |
  .step o t,K,H,nx=>match oneX P call o K H nx with
  |some (d,c,b)=>zpE P call t d c b
  |none=>none
 |
  .alt o t .stop,K,H,nx=>match oneX P call o K H nx with
  |some (d,c,b)=>zpE P call t d c b
  |none=>none
 |.alt _ _ _,_,_,_=>none
theorem zsc{P}{call:zbN}(c:call.Sound P){drop}{Q}:∀{t:DTree}{K:Kn}{H:AH}{nx:Nat}{r:St3},zpE P call t K H nx=some r->Q .normal (r.1.drop drop) r.2.1 r.2.2->awpT P t drop Q K H nx
 |
  .done,K,H,nx,r,h,b=>by
  cases h;exact b
 |.stop,_,_,_,_,h,_=>by cases h
 |
  .step o t,K,H,nx,r,h,b=>by
  simp only[zpE]at h;split at h
  .rename_i j g d e;exact zyt c e (zsc c h b)
  .cases h
 |
  .alt o t .stop,K,H,nx,r,h,b=>by
  simp only[zpE]at h;split at h
  .rename_i j g d e;exact⟨zyt c e (zsc c h b),trivial⟩
  .cases h
 |.alt _ _ .done,_,_,_,_,h,_=>by cases h
 |.alt _ _ (.step _ _),_,_,_,_,h,_=>by cases h
 |.alt _ _ (.alt _ _ _),_,_,_,_,h,_=>by cases h
abbrev Out:=AExit×Kn×AH×Nat
def retS(K:Kn)(H:AH):List ARet->Bool
 |[]=>true
 |.tmp _::r=>retS K H r
 |.cell t _ n::r=>zES n (K.get t) H&&retS K H r
theorem zua{K}{H}{nx}:∀{rs:List ARet},retS K H rs=true->zbV K H nx rs
 |[],_=>trivial
 |.tmp _::r,h=>zua (rs:=r) h
 |
  .cell t a n::r,h=>by
  simp only[retS,Wc]at h;exact⟨zy7 h.1,zua h.2⟩
section
variable {P:Program}{qf:FuncId->Nat->List Nat}{orc:zbN}
def QX(r:Out):QT:=λe K H nx=>(e,K,H,nx)=r
end
abbrev Sg:=Nat->Option Nat
def Sg.two(σ:Sg):Nat->Nat->Option (Nat×Nat×Nat):=λc b=>match σ c with
 |some r=>some (r,b,0)
 |none=>none
theorem Sg.two_some{σ:Sg}{r' q' r}(h:σ r'=some r):σ.two r' q'=some (r,q',0):=by unfold Sg.two;rw[h]
theorem Sg.of_two{σ:Sg}{r' q'}{x}(h:σ.two r' q'=some x):σ r'=some x.1/\x=(x.1,q',0):=by
 unfold Sg.two at h;split at h
 .rename_i r e;cases h;exact⟨e,rfl⟩
 .cases h
def isS(σ:Sg)(b r:Nat):Bool:=match σ b with
 |some x=>Wa x r
 |none=>false
theorem zpN{σ:Sg}{r' r}(h:isS σ r' r=true):σ r'=some r:=by
 unfold isS at h;split at h
 .rename_i x e;rw[e,zj h]
 .cases h
def okB(σ:Sg):Nat->AV->Bool
 |0,_=>false
 |
  d+1,v=>match v with
  |.own r _ _ _ _=>isS σ r r
  |.ptr r _ _ _ _=>isS σ r r
  |.mp r _=>isS σ r r
  |.it r=>isS σ r r
  |.agg l=>l.all (okB σ d)
  |.tup l=>l.all (okB σ d)
  |.fn _ l=>l.all (okB σ d)
  |_=>true
def noD:Nat->Nat->Prop:=λ_ _=>False
theorem zE4{H H2}{σ:Sg}:∀(d:Nat)(v:AV),okB σ d v=true->Vw H H2 σ.two noD true v v
 |0,_,h=>by cases h
 |
  d+1,v,h=>by
  unfold okB at h;have inl:∀l:List AV,l.all (okB σ d)=true->∀(i:Nat)(a b:AV),l[i]?=some a->l[i]?=some b->Vw H H2 σ.two noD true a b:=λl j i a b c e=>by rw[c]at e;cases e;exact zE4 d a (Wf.1 j a (WC c))
  cases v with
  |own r q g o n=>exact .own _ _ _ 0 _ _ _ _ g (Sg.two_some (zpN h)) rfl
  |ptr r q g i f=>exact .ptr _ _ _ 0 _ _ _ _ g (Sg.two_some (zpN h)) rfl
  |mp r q=>exact .mp _ _ _ _ (Sg.two_some (zpN h))
  |it r=>exact .it _ _ (Sg.two_some (zpN h))
  |agg l=>exact .agg _ _ _ rfl (inl l h)
  |tup l=>exact .tup _ _ _ rfl (inl l h)
  |fn f l=>exact .fn _ _ _ _ rfl (inl l h)
  |undef=>exact .undef _ _
  |int=>exact .int _ _ _
  |bool=>exact .bool _ _
  |str=>exact .str _ _
  |nilp=>exact .nilp _
  |iptr=>exact .iptr _ _ _
  |sl=>exact .sl _ _ _ _
  |nilsl=>exact .nilsl _
  |cut=>exact .cut _
  |nilfn=>exact .nilfn _
  |nilmp=>exact .nilmp _
def zmF{α β:Type}(p:α->β->Bool):List α->List β->Bool
 |[],[]=>true
 |a::l,b::m=>p a b&&zmF p l m
 |_,_=>false
theorem zey{α β:Type}{p}:∀{l:List α}{m:List β},zmF p l m=true->l.length=m.length
 |[],[],_=>rfl
 |
  a::l,b::m,h=>by
  simp only[zmF,Wc]at h;rw[WN,WN,zey h.2]
 |[],_::_,h=>by cases h
 |_::_,[],h=>by cases h
theorem zl5{α β:Type}{p}:∀{l:List α}{m:List β},zmF p l m=true->∀(i:Nat)(a:α)(b:β),l[i]?=some a->m[i]?=some b->p a b=true
 |[],[],_,i,a,b,h,_=>by simp at h
 |
  a::l,b::m,h,i,x,y,hx,hy=>by
  simp only[zmF,Wc]at h
  cases i with
  |zero=>simp at hx hy;subst hx hy;exact h.1
  |succ i=>exact zl5 h.2 i x y (by simpa using hx) (by simpa using hy)
 |[],_::_,h,_,_,_,_,_=>by cases h
 |_::_,[],h,_,_,_,_,_=>by cases h
def zAL:IntKind->Nat
 |.i8=>0 |.i16=>1 |.i32=>2 |.i64=>3 |.u8=>4 |.u16=>5 |.u32=>6 |.u64=>7
theorem zwG{k b}(h:zAL k=zAL b):k=b:=by cases k<;>cases b<;>first|rfl|cases h
def beqI:Int->Int->Bool
 |.ofNat a,.ofNat b=>Wa a b
 |.negSucc a,.negSucc b=>Wa a b
 |_,_=>false
theorem zC9:∀{a b:Int},beqI a b=true->a=b
 |.ofNat a,.ofNat b,h=>by rw[zj h]
 |.negSucc a,.negSucc b,h=>by rw[zj (a:=a) (b:=b) h]
 |.ofNat _,.negSucc _,h=>by cases h
 |.negSucc _,.ofNat _,h=>by cases h
def beqU:List UInt8->List UInt8->Bool
 |[],[]=>true
 |a::l,b::m=>Wa a.toNat b.toNat&&beqU l m
 |_,_=>false
theorem zCZ:∀{l m:List UInt8},beqU l m=true->l=m
 |[],[],_=>rfl
 |
  a::l,b::m,h=>by
  simp only[beqU,Wc]at h;rw[UInt8.toNat_inj.1 (zj h.1),zCZ h.2]
 |[],_::_,h=>by cases h
 |_::_,[],h=>by cases h
def beqS(s t:ByteArray):Bool:=beqU s.data.toList t.data.toList
theorem zC1{s t:ByteArray}(h:beqS s t=true):s=t:=by obtain⟨⟨l⟩⟩:=s;obtain⟨⟨m⟩⟩:=t;have:=zCZ h;simp only at this;rw[this]
def fnN:Fn->Option Nat
 |.func f=>some f
 |_=>none
theorem zH8{f g:Fn}{n}(h:fnN f=some n)(b:fnN g=some n):f=g:=by cases f<;>cases g<;>simp_all [fnN]
def vw0B:Nat->AV->AV->Bool
 |0,_,_=>false
 |
  d+1,a,b=>match a,b with
  |_,.undef=>true
  |.int k n,.int u e=>Wa (zAL k) (zAL u)&&beqI n e
  |.bool x,.bool y=>x == y
  |.str s,.str t=>beqS s t
  |.nilp,.nilp=>true
  |.nilsl,.nilsl=>true
  |.nilfn,.nilfn=>true
  |.nilmp,.nilmp=>true
  |.cut,.cut=>true
  |.sl o n f,.sl h e q=>Wa o h&&(Wa n e&&allB n λi=>allB o λj=>vw0B d (f i j) (q i j))
  |.iptr n c,.iptr e p=>Wa n e&&allB n λj=>vw0B d (c j) (p j)
  |.agg l,.agg m=>zmF (vw0B d) l m
  |.tup l,.tup m=>zmF (vw0B d) l m
  |.fn f l,.fn g m=>(match fnN f,fnN g with|some x,some y=>Wa x y|_,_=>false)&&zmF (vw0B d) l m
  |_,_=>false
theorem zr6{H H2}{σ:Sg}:∀(d:Nat)(a b:AV),vw0B d a b=true->∀t,Vw H H2 σ.two noD t a b
 |0,_,_,h,_=>by cases h
 |
  d+1,a,b,h,t=>by
  have inl:∀l m:List AV,zmF (vw0B d) l m=true->∀(i:Nat)(a b:AV),l[i]?=some a->m[i]?=some b->Vw H H2 σ.two noD t a b:=λl m s i a b c e=>
   zr6 d a b (zl5 s i a b c e) t
  unfold vw0B at h;split at h
  .exact .undef _ _
  .simp only[Wc]at h;rw[zwG (zj h.1),zC9 h.2];exact .int _ _ _
  .rw[beq_iff_eq]at h;subst h;exact .bool _ _
  .rw[zC1 h];exact .str _ _
  .exact .nilp _
  .exact .nilsl _
  .exact .nilfn _
  .exact .nilmp _
  .exact .cut _
  .simp only[Wc]at h;obtain⟨c,e,p⟩:=h;cases zj c;cases zj e;exact .slf _ _ _ _ _ λi j q o=>zr6 d _ _ (zbs (zbs p q) o) false
  .simp only[Wc]at h;obtain⟨c,e⟩:=h;cases zj c;exact .iptrf _ _ _ _ λj o=>zr6 d _ _ (zbs e o) false
  .exact .agg _ _ _ (zey h) (inl _ _ h)
  .exact .tup _ _ _ (zey h) (inl _ _ h)
  .rename_i f l g m;simp only[Wc]at h;obtain⟨c,e⟩:=h
   cases k:fnN f with
   |none=>rw[k]at c;cases c
   |some x=>
    cases n:fnN g with
    |none=>rw[k,n]at c;cases c
    |some y=>rw[k,n]at c;cases zj c;rw[zH8 k n];exact .fn _ _ _ _ (zey e) (inl _ _ e)
  .cases h
def vwB(σ:Sg):Nat->AV->AV->Bool
 |0,_,_=>false
 |
  d+1,a,b=>match a,b with
  |_,.undef=>true
  |.int k n,.int A e=>Wa (zAL k) (zAL A)&&beqI n e
  |.bool x,.bool y=>x == y
  |.str s,.str t=>beqS s t
  |.nilp,.nilp=>true
  |.nilsl,.nilsl=>true
  |.nilfn,.nilfn=>true
  |.nilmp,.nilmp=>true
  |.cut,.cut=>true
  |.own r q g o n,.own h j p u e=>isS σ h r&&(Wa q j&&(Wa g p&&(Wa o u&&Wa n e)))
  |.ptr r q g o n,.ptr h j p u e=>isS σ h r&&(Wa q j&&(Wa g p&&(Wa o u&&Wa n e)))
  |.mp r q,.mp h j=>isS σ h r&&Wa q j
  |.it r,.it h=>isS σ h r
  |.sl B n f,.sl v e z=>vw0B (d+1) (.sl B n f) (.sl v e z)
  |.iptr n c,.iptr e w=>vw0B (d+1) (.iptr n c) (.iptr e w)
  |.agg l,.agg m=>zmF (vwB σ d) l m
  |.tup l,.tup m=>zmF (vwB σ d) l m
  |.fn f l,.fn g m=>(match fnN f,fnN g with|some x,some y=>Wa x y|_,_=>false)&&zmF (vwB σ d) l m
  |_,_=>false
theorem zy9{H H2}{σ:Sg}:∀(d:Nat)(a b:AV),vwB σ d a b=true->Vw H H2 σ.two noD true a b
 |0,_,_,h=>by cases h
 |
  d+1,a,b,h=>by
  have inl:∀l m:List AV,zmF (vwB σ d) l m=true->∀(i:Nat)(a b:AV),l[i]?=some a->m[i]?=some b->Vw H H2 σ.two noD true a b:=λl m q i a b c e=>
   zy9 d a b (zl5 q i a b c e)
  unfold vwB at h;split at h
  .exact .undef _ _
  .simp only[Wc]at h;rw[zwG (zj h.1),zC9 h.2];exact .int _ _ _
  .rw[beq_iff_eq]at h;subst h;exact .bool _ _
  .rw[zC1 h];exact .str _ _
  .exact .nilp _
  .exact .nilsl _
  .exact .nilfn _
  .exact .nilmp _
  .exact .cut _
  .simp only[Wc]at h;obtain⟨c,e,n,o,p⟩:=h;cases zj e;cases zj n;cases zj o;cases zj p;exact .own _ _ _ 0 _ _ _ _ _ (Sg.two_some (zpN c)) rfl
  .simp only[Wc]at h;obtain⟨c,e,n,o,p⟩:=h;cases zj e;cases zj n;cases zj o;cases zj p;exact .ptr _ _ _ 0 _ _ _ _ _ (Sg.two_some (zpN c)) rfl
  .simp only[Wc]at h;cases zj h.2;exact .mp _ _ _ _ (Sg.two_some (zpN h.1))
  .exact .it _ _ (Sg.two_some (zpN h))
  .exact zr6 _ _ _ h _
  .exact zr6 _ _ _ h _
  .exact .agg _ _ _ (zey h) (inl _ _ h)
  .exact .tup _ _ _ (zey h) (inl _ _ h)
  .rename_i f l g m;simp only[Wc]at h;obtain⟨c,e⟩:=h
   cases j:fnN f with
   |none=>rw[j]at c;cases c
   |some x=>
    cases k:fnN g with
    |none=>rw[j,k]at c;cases c
    |some y=>rw[j,k]at c;cases zj c;rw[zH8 j k];exact .fn _ _ _ _ (zey e) (inl _ _ e)
  .cases h
def sgR(c cnt top nx2:Nat):Sg:=λb=>
 bif We c b&&Wd b (c+cnt)then some (b-c+top)else bif Wd b top&&Wd b nx2 then some b else none
def rowB(σ:Sg):List AV->List AV->Bool:=zmF (vwB σ 30)
def zEP(σ:Sg)(nx2:Nat)(H:AH):AH->Bool
 |[]=>true
 |(d,o)::t=>(Wd d nx2&&(match o with
   |
    .row sz els2 g2=>match σ d with
    |
     some r=>match H.look r with
     |some (.row c b g)=>Wa sz c&&(Wa g g2&&zmF (rowB σ) b els2)
     |_=>false
    |none=>false
   |_=>false))&&zEP σ nx2 H t
theorem zui:∀{H:AH}{r:Nat}{o:AObj},H.look r=some o->(r,o)∈H
 |[],r,o,h=>by cases h
 |
  (j,u)::t,r,o,h=>by
  simp only[AH.look]at h
  cases b:Wa j r with
  |true=>rw[b]at h;cases h;rw[zj b];simp
  |false=>rw[b]at h;exact Wo _ (zui h)
theorem zsa{σ:Sg}{nx2}{H}:∀{p:AH},zEP σ nx2 H p=true->∀{m:Nat}{o:AObj},(m,o)∈p->m<nx2/\∃n b g r c,o=.row n b g/\σ m=some r/\H.look r=some (.row n c g)/\zmF (rowB σ) c b=true
 |[],_,_,_,k=>by simp at k
 |
  (j,u)::t,h,m,o,k=>by
  simp only[zEP,Wc]at h;obtain⟨⟨v,d⟩,h3⟩:=h;rcases Wx.1 k with e|k
  .cases e;refine⟨bltT v,?_⟩;split at d
   .rename_i n b z;split at d
    .rename_i r x;split at d
     .rename_i y c g w;simp only[Wc]at d;obtain⟨q,s,a3⟩:=d;cases zj q;cases zj s;exact⟨_,_,_,r,c,rfl,x,w,a3⟩
     .cases d
    .cases d
   .cases d
  .exact zsa h3 k
theorem zFr{B lo cnt top nx2}{H H2}(Z:B<=lo)(P:B<=top)(v:B<=nx2)(Q:lo+cnt<=nx2)(D:zEP (sgR lo cnt top nx2) nx2 H H2=true):View B H H2 nx2 (sgR lo cnt top nx2).two noD:=by
 have cases':∀{c r:Nat},sgR lo cnt top nx2 c=some r->(lo<=c/\c<lo+cnt/\r=c-lo+top)\/(c<top/\c<nx2/\r=c):=λ{c r} h=>by
  unfold sgR at h
  cases d:We lo c&&Wd c (lo+cnt)with
  |true=>rw[d]at h;simp only[Wc]at d;cases h;exact .inl ⟨bleT d.1,bltT d.2,rfl⟩
  |false=>
   rw[d]at h
   cases e:Wd c top&&Wd c nx2 with
   |true=>rw[e]at h;simp only[Wc]at e;cases h;exact .inr ⟨bltT e.1,bltT e.2,rfl⟩
   |false=>rw[e]at h;cases h
 refine⟨v,λr q h=>?_,?_,λ_ _ _ _ _ _ h=>h,?_,λr o h=>(zsa D (zui h)).1,λc y sz A Y h=>?_⟩
 .refine Sg.two_some ?_;unfold sgR
  have s:We lo r=false:=by
   cases d:We lo r with
   |false=>rfl
   |true=>have:=bleT d;omega
  have k:Wd r top=true:=by
   cases d:Wd r top with
   |true=>rfl
   |false=>
    have:=WO (λh:r<top=>by
     have:Wd r top=true:=by simpa [Nat.blt_eq]using h
     rw[d]at this
     cases this)
    omega
  have t:Wd r nx2=true:=by
   cases d:Wd r nx2 with
   |true=>rfl
   |false=>
    have:=WO (λh:r<nx2=>by
     have:Wd r nx2=true:=by simpa [Nat.blt_eq]using h
     rw[d]at this
     cases this)
    omega
  rw[s,k,t];rfl
 .intro r1 q1 r2 q2 r q V W s k;obtain⟨n,K⟩:=Sg.of_two s;obtain⟨L,M⟩:=Sg.of_two k;cases K;cases M;refine⟨?_,rfl⟩;rcases cases' n with ⟨F,z,I⟩|⟨F,z,I⟩<;>rcases cases' L with ⟨S,T,J⟩|⟨S,T,J⟩<;>simp only at I J<;>omega
 .intro c y x h;obtain⟨n,_⟩:=Sg.of_two h;rcases cases' n with ⟨F,z,_⟩|⟨_,z,_⟩<;>omega
 .unfold AH.get at h
  cases w:H2.look c with
  |none=>rw[w]at h;cases h
  |some o=>
   rw[w]at h;obtain⟨_,R,p,X,r,g,rfl,k,t,u⟩:=zsa D (zui w)
   cases y with
   |succ y=>cases h
   |zero=>
    cases h;refine .inl ⟨r,0,0,g,Sg.two_some k,?_,?_⟩
    .unfold AH.get;rw[t];rfl
    .refine⟨(zey u).symm,λi U C=>?_⟩;have m:i<g.length:=by rw[zey u];exact(List.getElem?_eq_some_iff.1 C).1
     have e:=zl5 u i _ _ (Wn m) C;exact⟨_,Wn m,(zey e).symm,λj a b N O=>zy9 30 a b (zl5 e j a b N O)⟩
section
variable {P:Program}
theorem zC5{ops:Array Oper}{g:List AOper}{Qc:Exit->Act->World->Prop}(n:g.length=ops.size)(J:List Bool->Act->World->Prop)(c:∀l a w,l.length=g.length->J l a w->(∀i,i<g.length->zbC (ops.toList.map zdA) l i=false)->Qc .normal a w)(d:∀l i a w,l.length=g.length->i<g.length->zbC (ops.toList.map zdA) l i=true->J l a w->∀o,ops[i]?=some o ->
   if Region.wanted o (yielded ops a.tmps)then o.wp P a w (J (l.set i true)) Qc else J (l.set i true) (a.put o.dst undef) w) :
  ∀(b:Nat)(l:List Bool)(a:Act)(w:World),l.length=g.length->zhE l<=b->J l a w->wpAny P .any ops Qc b l.toArray a w
 |
  0,l,a,w,m,hc,e=>by
  have p:∀i,i<g.length->zbC (ops.toList.map zdA) l i=false:=λi q=>by have:=zkI (l:=l) (by omega) i (by omega);unfold zbC;rw[this];rfl
  refine⟨?_,c l a w m e p⟩;rw[List.eq_nil_iff_forall_not_mem];intro j e;obtain⟨t,k⟩:=(zkb (by omega)).1 e;rw[p j (by omega)]at k;cases k
 |
  b+1,l,a,w,m,hc,e=>by
  refine⟨λx=>c l a w m e λi q=>?_,λi q=>?_⟩
  .cases y:zbC (ops.toList.map zdA) l i with
   |false=>rfl
   |true=>have:i∈Region.ready .any ops l.toArray:=(zkb (by omega)).2 ⟨by omega,y⟩;rw[x]at this;simp at this
  .obtain⟨t,k⟩:=(zkb (by omega)).1 q;have u:ops[i]?=some ops[i]:=Array.getElem?_eq_getElem t;have v:=zmr (l:=l) (i:=i) (by omega) (za5.1 k).1;have next:∀a w,J (l.set i true) a w->wpAny P .any ops Qc b (l.toArray.setIfInBounds i true) a w:=λa w e=>by have:=zC5 n J c d b (l.set i true) a w (by simpa using m) (by omega) e;simpa using this
   have:=d l i a w m (by omega) k e ops[i] u;unfold wpOp;rw[u];simp only;split
   .rename_i s;rw[if_pos s]at this;exact .inl (Oper.wp_mono (λa w h=>next a w h) this)
   .rename_i s;rw[if_neg s]at this;exact next _ _ this
def valX(P:Program)(call:zbN)(o:AOper)(ρ:Nat->AV)(H:AH)(nx:Nat):Option (AV×AH×Nat) :=
 match o.guard with
 |none=>zrV P call o.op ρ H nx
 |
  some (t,want)=>match grd want (ρ t)with
  |some true=>zrV P call o.op ρ H nx
  |some false=>some (.tup [],H,nx)
  |none=>none
theorem zEw{call:zbN}(s:call.Sound P){o}{ρ ρ2}(m:∀t∈o.looks,ρ2 t=ρ t){H}{nx}{r}(h:valX P call o ρ H nx=some r){k}(j:k (upd ρ2 o.dst r.1) r.2.1 r.2.2):ExF P false o ρ2 H nx k:=by
 have body:zrV P call o.op ρ H nx=some r->zcA P false o.op ρ2 H nx (λv q g=>k (upd ρ2 o.dst v) q g):=λh=>by rw[zkx (P:=P) (fx:=false) (ρ':=ρ) λt u=>m t (zmv u)];exact zty s h j
 unfold valX at h;unfold ExF
 cases e:o.guard with
 |none=>rw[e]at h;exact body h
 |some p=>
  obtain⟨t,c⟩:=p;rw[e]at h;simp only at h⊢;rw[m t (zkl e)]
  cases n:grd c (ρ t)with
  |none=>rw[n]at h;cases h
  |some b=>
   rw[n]at h
   cases b with
   |true=>exact⟨λ_=>body h,λd=>(by cases d)⟩
   |false=>cases h;exact⟨λd=>(by cases d),λ_=>j⟩
def seqV(P:Program)(call:zbN):List AOper->Kn->AH->Nat->Option (List (Nat×AV)×List (Nat×Nat)×Nat)
 |[],_,_,nx=>some ([],[],nx)
 |
  o::os,K,H,nx=>match valX P call o K.get H nx with
  |
   some (v,H',nx')=>match seqV P call os (setO K o.dst v) H' nx' with
   |
    some (vs,rs,top)=>some ((match o.dst with
    |some d=>(d,v)::vs
    |none=>vs),(nx,nx'-nx)::rs,top)
   |none=>none
  |none=>none
def zJc:List (List Nat)->List (List Nat)->List (List Nat)
 |b,[]=>b
 |b,c::r=>zJc (b++[(c++c.flatMap λd=>b.getD d []).eraseDups]) r
def renV(ρ:Nat->Nat):Nat->AV->AV
 |0,v=>v
 |
  d+1,v=>match v with
  |.ptr r q g i f=>.ptr (ρ r) q g i f
  |.own r q g off n=>.own (ρ r) q g off n
  |.fn f b=>.fn f (b.map (renV ρ d))
  |.agg l=>.agg (l.map (renV ρ d))
  |.tup l=>.tup (l.map (renV ρ d))
  |.mp r q=>.mp (ρ r) q
  |.it r=>.it (ρ r)
  |v=>v
def renH(ρ:Nat->Nat):AH->AH
 |[]=>[]
 |
  (r,o)::t=>(ρ r,match o with
  |.row e b g=>.row e (b.map λc=>c.map (renV ρ 30)) g
  |.fam e d=>.fam e d)::renH ρ t
abbrev STab:=List (List Nat×AH)
def zoz:STab->List Nat->AH
 |[],_=>[]
 |(S,H)::t,b=>bif beqL S b then H else zoz t b
def zvQ(ops:List AOper)(A:List (List Nat))(i:Nat):List Nat :=
 (Wk ops.length).filterMap λj=>bif Wa j i||memN (A.getD j []) i then(ops.getD j default).dst else none
def zxk(ops:List AOper)(A:List (List Nat))(b c:Kn)(i:Nat):Kn:=zav c ((zvQ ops A i).map λt=>(t,b.get t))
def zI0(P:Program)(call:zbN)(ops:List AOper)(c:List Nat)(A:List (List Nat))(d e:Kn)(g:List (Nat×Nat))(top:Nat)(S:List Nat)(H:AH):List Nat->STab->List (List Nat)->Option (STab×List (List Nat))
 |[],tab,b=>some (tab,b)
 |
  i::r,tab,b=>
  bif zfe c A i S && !memS (tab.map (·.1)) (zmJ c i S)then
   match valX P call (ops.getD i default) (zxk ops A d e i).get H top with
   |some (_,h,_)=>zI0 P call ops c A d e g top S H r (tab++[(zmJ c i S,renH (λx=>bif Wd x top then x else x-top+(g.getD i (0,0)).1) h)]) (b++[zmJ c i S])
   |none=>none
  else zI0 P call ops c A d e g top S H r tab b
def growT(P:Program)(call:zbN)(ops:List AOper)(d:List Nat)(A:List (List Nat))(e g:Kn)(h:List (Nat×Nat))(top:Nat):Nat->List (List Nat)->STab->Option STab
 |0,_,tab=>some tab
 |_+1,[],tab=>some tab
 |
  n+1,S::todo,tab=>match zI0 P call ops d A e g h top S (zoz tab S) d tab todo with
  |some (c,b)=>growT P call ops d A e g h top n b c
  |none=>none
def idS:Sg:=λr=>some r
def dstB(σ:Sg)(b:Kn):Option Nat->AV->Bool
 |none,_=>true
 |some d,v=>vwB σ 30 v (b.get d)
def chkE(P:Program)(call:zbN)(ops:List AOper)(A:List (List Nat))(d c:Kn)(b:List (Nat×Nat))(nx top:Nat)(tab:STab)(e:Nat×List Nat×List Nat):Bool :=
 match valX P call (ops.getD e.1 default) (zxk ops A d c e.1).get (zoz tab e.2.1) top with
 |
  some (v,H',_)=>
  bif (ops.getD e.1 default).fixed then dstB idS c (ops.getD e.1 default).dst v
  else We nx (b.getD e.1 (0,0)).1&&(We ((b.getD e.1 (0,0)).1+(b.getD e.1 (0,0)).2) top &&
   (zEP (sgR (b.getD e.1 (0,0)).1 (b.getD e.1 (0,0)).2 top top) top H' (zoz tab e.2.2) &&
   (dstB (sgR (b.getD e.1 (0,0)).1 (b.getD e.1 (0,0)).2 top top) c (ops.getD e.1 default).dst v &&
   ((c.all λp=>memN (zvQ ops A e.1) p.1||okB (sgR (b.getD e.1 (0,0)).1 (b.getD e.1 (0,0)).2 top top) 30 p.2) &&
   d.all λp=>okB (sgR (b.getD e.1 (0,0)).1 (b.getD e.1 (0,0)).2 top top) 30 p.2))))
 |none=>false
def planX(ops:List AOper)(b:List Nat)(A:List (List Nat))(St:List (List Nat)):Plan :=
 (Wk ops.length).flatMap λi=>
  bif memN b i then(St.filter (zfe b A i)).map λS=>(i,S,zmJ b i S)
  else bif (ops.getD i default).sees then(St.filter (zfe b A i)).map λS=>(i,S,S)
  else((St.filter (zfe b A i)).take 1).map λS=>(i,S,S)
structure DR where
 Kf:Kn
 H:AH
 top:Nat
def zIV(ops:List AOper)(A:List (List Nat))(i t:Nat):Bool :=
 ((A.getD i []).any λj=>match (ops.getD j default).dst with|some d=>Wa d t|none=>false) ||
 allB ops.length λj=>match (ops.getD j default).dst with|some d=> !Nat.beq d t||(Wa j i||memN (A.getD j []) i)|none=>true
def zq0(o:AOper):AOper:={ o with op:=bif o.fixed && !o.sees then .mov (.c .undef)else .mknil 0,guard:=none }
def zDd(ops:List AOper)(b:List (List Nat))(d:List Nat)(A:List (List Nat))(St:List (List Nat))(c:Plan)(e:List Nat):Bool :=
 zyX (ops.map zq0) b d A St c e
def drawR(P:Program)(call:zbN)(ops:List AOper)(b:List (List Nat))(c:List Nat)(A:List (List Nat))(d:List (Nat×AV))(e:List (Nat×Nat))(tab:STab)(K:Kn)(nx top:Nat):Option (Kn×AH×Nat) :=
 bif We nx top&&(zDd ops b c A (tab.map (·.1)) (planX ops c A (tab.map (·.1))) (d.map (·.1))&&((allB ops.length λi=>(ops.getD i default).looks.all (zIV ops A i))&&(planX ops c A (tab.map (·.1))).all (chkE P call ops A K (zav K d) e nx top tab)))
 then some (zav K d,zoz tab c,top)else none
def zJY(P:Program)(call:zbN)(ops:List AOper)(b:List (List Nat))(K:Kn)(H:AH)(nx:Nat):Option (Kn×AH×Nat) :=
 match seqV P call ops K H nx with
 |
  some (vs,rs,top)=>
  match growT P call ops ((Wk ops.length).filter λi=> !(ops.getD i default).fixed) (zJc [] b) K (zav K vs) rs top 5000 [[]] [([],H)]with
  |some c=>drawR P call ops b ((Wk ops.length).filter λi=> !(ops.getD i default).fixed) (zJc [] b) vs rs (([],H)::c.tail) K nx top
  |none=>none
 |none=>none
theorem zHo(H)(ι):zeW H idS.two ι=ι:=by funext r q g;simp[zeW,Sg.two,idS]
theorem vr_id{w}{L}{ι}{H}{nx}(rel:RelH w L ι H nx){a b}(h:Vw H H idS.two noD true a b){v}(c:VR w (Lt L ι H) ι v a):VR w (Lt L ι H) ι v b:=by have:=h.sound rel (M:=Lt L ι H) (λ_ h=>h) (λ_ _ _ _ _ _ h=>h.elim) v c;rw[zHo]at this;exact this
theorem RelH.up{w}{L}{ι}{H}{nx nx'}(rel:RelH w L ι H nx)(h:nx<=nx'):RelH w L ι H nx' :=
 ⟨rel.row,rel.apart,rel.out,λr q g l b=>WI (rel.idx r q g l b) h,λr o b=>WI (rel.dom r o b) h,rel.gen,rel.Lsz⟩
def vsD(ops:List AOper)(b:Kn)(l:List Bool):List (Nat×AV):=(Wk ops.length).filterMap λi=>bif getB l i then(ops.getD i default).dst.map λd=>(d,b.get d)else none
theorem zwX{ops}{Kf}{l}{p}:p∈vsD ops Kf l↔∃i,i<ops.length/\getB l i=true/\(ops.getD i default).dst=some p.1/\p.2=Kf.get p.1:=by
 unfold vsD;rw[WJ];constructor
 .rintro⟨i,c,h⟩;refine⟨i,Wl.1 c,?_⟩
  cases b:getB l i with
  |false=>rw[b]at h;cases h
  |true=>rw[b]at h;obtain⟨d,hd,rfl⟩:=WB.1 h;exact⟨rfl,hd,rfl⟩
 .rintro⟨i,c,b,h,e⟩;exact⟨i,Wl.2 c,by rw[b,cond_true,h,Option.map_some,<-e]⟩
theorem zo7:∀ {e:List (Nat×AV)}{K:Kn}{t:Nat}{v:AV},(∀p∈e,p.1=t->p.2=v)->t∈e.map (·.1)->(zav K e).get t=v
 |[],_,_,_,_,h=>by simp at h
 |
  (d,u)::r,K,t,v,h,b=>by
  rw[zav];by_cases c:t∈r.map (·.1)
  .exact zo7 (λp g=>h p (Wo _ g)) c
  .rw[zgz c,Xb];simp only[List.map_cons,Wx]at b;rcases b with b|b
   .subst b;rw[if_pos rfl];exact h (t,u) (by simp) rfl
   .exact absurd b c
def zlu(ops:List AOper)(b c:Kn)(l:List Bool):Kn:=zav b (vsD ops c l)
theorem zj2{ops}{K0 Kf}{l}{i t}(c:i<ops.length)(b:getB l i=true)(hd:(ops.getD i default).dst=some t):(zlu ops K0 Kf l).get t=Kf.get t:=by unfold zlu;refine zo7 (λp d e=>?_) (Wp.2 ⟨(t,Kf.get t),zwX.2 ⟨i,c,b,hd,rfl⟩,rfl⟩);obtain⟨_,_,_,_,h⟩:=zwX.1 d;rw[h,e]
theorem zmw{ops}{K0 Kf}{l}{t}(h:∀i,i<ops.length->getB l i=true->(ops.getD i default).dst≠some t):(zlu ops K0 Kf l).get t=K0.get t:=by
 unfold zlu;refine zgz λd=>?_
 obtain⟨p,g,e⟩:=Wp.1 d;obtain⟨i,c,b,hd,_⟩:=zwX.1 g;exact h i c b (by rw[hd,e])
theorem zre{ops}{A}{i t}(h:t∈zvQ ops A i):∃j,j<ops.length/\(j=i\/i∈A.getD j [])/\(ops.getD j default).dst=some t:=by
 unfold zvQ at h;obtain⟨j,c,h⟩:=WJ.1 h;refine⟨j,Wl.1 c,?_⟩
 cases b:Wa j i||memN (A.getD j []) i with
 |false=>rw[b]at h;cases h
 |true=>
  rw[b]at h;refine⟨?_,h⟩;rcases Wr.1 b with b|b
  .exact .inl (zj b)
  .exact .inr ((zah _ _).1 b)
theorem Kn.get_mem{K:Kn}{t:Nat}:K.get t=.undef\/(t,K.get t)∈K:=by
 induction K with
 |nil=>exact .inl rfl
 |cons p r c=>
  obtain⟨j,u⟩:=p;simp only[Xa]
  cases b:Wa j t with
  |true=>rw[zj b];exact .inr (by simp)
  |false=>
   rcases c with h|h
   .exact .inl h
   .exact .inr (Wo _ h)
theorem zDy{ops}{A}{K0 Kf}{i t}(h:t∈zvQ ops A i):(zxk ops A K0 Kf i).get t=K0.get t:=by
 unfold zxk;refine zo7 (λp b e=>?_) ?_
 .obtain⟨x,_,rfl⟩:=Wp.1 b;simp only at e;subst e;rfl
 .rw[List.map_map];exact Wp.2 ⟨t,h,rfl⟩
theorem zzF{ops}{A}{K0 Kf}{i t}(h:t∉zvQ ops A i):(zxk ops A K0 Kf i).get t=Kf.get t:=by
 unfold zxk;refine zgz λb=>?_
 rw[List.map_map]at b;obtain⟨x,c,rfl⟩:=Wp.1 b;exact h c
theorem zHG{ops}{A}{i j t}(b:j<ops.length)(h:j=i\/i∈A.getD j [])(hd:(ops.getD j default).dst=some t):t∈zvQ ops A i:=by
 unfold zvQ;refine WJ.2 ⟨j,Wl.2 b,?_⟩
 have:(Wa j i||memN (A.getD j []) i)=true:=by
  rcases h with h|h
  .rw[h,zbB];rfl
  .rw[(zah _ _).2 h,Bool.or_true]
 rw[this];exact hd
structure DOk(ops:List AOper)(deps:List (List Nat))(Ls:List Nat)(A:List (List Nat))(St:List (List Nat))(plan:Plan)(ks:List Nat):Prop where
 low:∀(i:Nat),i<ops.length->∀j∈deps.getD i [],j<i
 clo:∀(i:Nat),i<ops.length->∀j∈A.getD i [],j∈deps.getD i []\/∃d∈deps.getD i [],j∈A.getD d []
 one:∀(i j d:Nat),i<ops.length->j<ops.length->(ops.getD i default).dst=some d->(ops.getD j default).dst=some d->i=j
 keys:∀k∈ks,∃j,j<ops.length/\(ops.getD j default).dst=some k
 look:∀(i:Nat),i<ops.length->∀t∈(ops.getD i default).looks,(∃j∈A.getD i [],(ops.getD j default).dst=some t)\/∀j,j<ops.length->(ops.getD j default).dst=some t->j=i\/i∈A.getD j []
 lin:∀i∈Ls,i<ops.length
 st0:[]∈St
 stc:∀S∈St,∀i∈Ls,zfe Ls A i S=true->zmJ Ls i S∈St
 plan:∀(i:Nat),i<ops.length->((ops.getD i default).fixed=true/\(ops.getD i default).sees=false/\i∉Ls/\anyP plan i=true) \/
  (i∉Ls/\∀S∈St,zfe Ls A i S=true->memP plan i S S=true)\/(i∈Ls/\∀S∈St,zfe Ls A i S=true->memP plan i S (zmJ Ls i S)=true)
theorem zs8{ops:List AOper}{i:Nat}(b:i<ops.length):(ops.map zq0).getD i default=zq0 (ops.getD i default):=by rw[Wg,Wt,Wg,Wn b];rfl
theorem znK{ops:List AOper}{i:Nat}:((ops.map zq0).getD i default).dst=(ops.getD i default).dst:=by
 by_cases b:i<ops.length
 .rw[zs8 b];rfl
 .rw[Wg,Wz (by rw[WK];omega),Wg,Wz (by omega)]
theorem dok_of{ops}{deps}{Ls}{A}{St}{plan}{ks}(h:zDd ops deps Ls A St plan ks=true)(m:(allB ops.length λi=>(ops.getD i default).looks.all (zIV ops A i))=true):DOk ops deps Ls A St plan ks:=by
 have ok:=zvX h;have y:(ops.map zq0).length=ops.length:=WK _;refine⟨λi c=>ok.low i (by omega),λi c=>ok.clo i (by omega),λi j d c g b m=>ok.one i j d (by omega) (by omega) (by rw[znK];exact b) (by rw[znK];exact m),λk u=>?_,λi c t x=>?_,λi c=>by have:=ok.lin i c;omega,ok.st0,ok.stc,λi c=>?_⟩
 .obtain⟨o,v,hd⟩:=ok.keys k u;obtain⟨j,g,q⟩:=WH.1 v;refine⟨j,by omega,?_⟩;rw[<-znK,Wg,Wn g,q];exact hd
 .have:=Wf.1 (zbs m c) t x;unfold zIV at this;rcases Wr.1 this with this|this
  .obtain⟨j,g,hd⟩:=Ww.1 this;refine .inl ⟨j,g,?_⟩
   cases e:(ops.getD j default).dst with
   |none=>rw[e]at hd;cases hd
   |some d=>rw[e]at hd;rw[zj hd]
  .refine .inr λj g hd=>?_
   have:=zbs this g;rw[hd]at this;simp only[zbB,Bool.not_true,WG,Wm]at this;rcases this with this|this
   .exact .inl (zj this)
   .exact .inr ((zah _ _).1 this)
 .rcases ok.plan i (by omega)with ⟨b,m,n,p⟩|h|h
  .rw[zs8 c]at b m;refine .inl ⟨?_,?_,n,p⟩
   .cases s:(ops.getD i default).fixed with
    |true=>rfl
    |false=>unfold zq0 at b;rw[s]at b;cases b
   .cases w:(ops.getD i default).sees with
    |false=>rfl
    |true=>unfold zq0 at b;rw[w,Bool.not_true,Bool.and_false]at b;cases b
  .exact .inr (.inl h)
  .exact .inr (.inr h)
theorem zn9{ops}{b}{Ls}{A}{St}{plan}{ks}(ok:DOk ops b Ls A St plan ks){l}(m:∀i,i<ops.length->getB l i=true->∀j∈b.getD i [],getB l j=true):∀(i:Nat),i<ops.length->(∀j∈b.getD i [],getB l j=true)->∀j∈A.getD i [],getB l j=true:=by
 intro i
 induction i using Wy with
 |_ i ih=>
  intro g hd j n;rcases ok.clo i g j n with h|⟨d,e,k⟩
  .exact hd j h
  .have c:=ok.low i g d e;exact ih d c (by omega) (m d (by omega) (hd d e)) j k
structure DX(P:Program)(call:zbN)(ops:List AOper)(deps:List (List Nat))(Ls:List Nat)(A:List (List Nat))(St:List (List Nat))(plan:Plan)(ks:List Nat)(K0 Kf:Kn)(rs:List (Nat×Nat))(nx top:Nat)(tab:STab):Prop where
 ok:DOk ops deps Ls A St plan ks
 chk:∀e∈plan,chkE P call ops A K0 Kf rs nx top tab e=true
 lsF:∀i,i∈Ls->(ops.getD i default).fixed=false
 lsT:∀i,i<ops.length->i∉Ls->(ops.getD i default).fixed=true
theorem zzi:∀{l:Plan}{a:Nat},anyP l a=true->∃S,(a,S,S)∈l
 |[],_,h=>by cases h
 |
  (i,k,k')::r,a,h=>by
  simp only[anyP,Wm,Wc]at h;rcases h with ⟨b,c⟩|h
  .rw[<-zj b,<-zgJ c];exact⟨k,by simp⟩
  .obtain⟨S,d⟩:=zzi h;exact⟨S,Wo _ d⟩
theorem zud:∀{l:Plan}{a:Nat}{b c:List Nat},memP l a b c=true->(a,b,c)∈l
 |[],_,_,_,h=>by cases h
 |
  (i,k,k')::r,a,b,c,h=>by
  simp only[memP,Wm,Wc]at h;rcases h with ⟨d,e,g⟩|h
  .rw[<-zj d,<-zgJ e,<-zgJ g];simp
  .exact Wo _ (zud h)
theorem zyr{K}{d}{v}{t}(h:d≠some t):(setO K d v).get t=K.get t:=by rw[zoa];exact znZ h
theorem zx0{K}{d}{v}{t}(h:d=some t):(setO K d v).get t=v:=by subst h;simp[setO,Xb]
theorem upd_eq{ρ}{d}{v}{t}(h:d=some t):upd ρ d v t=v:=by subst h;simp[upd]
theorem DX.sound{call:zbN}(hs:call.Sound P){nt n0}{w0}{L}{ι0}{H0}{B}(base:RelH w0 L ι0 H0 B){id}{ops}{b}(hlen:b.length=ops.size)(hrel:∀(i:Nat)(o:Oper)(ao:AOper),ops.toList[i]?=some o->b[i]?=some ao->OpRel P nt ops o ao)(hfol:P.follows .mixedOrders=true){Ls}{A St}{plan}{vs}{rs}{tab:STab}{K}{H}{nx top}(htop:nx<=top)(htab:zoz tab []=H)(dx:DX P call b (ops.toList.map zdA) Ls A St plan (vs.map (·.1)) K (zav K vs) rs nx top tab){w}{ι}{a:Act}(s:In nt n0 w0 L ι0 H0 B w ι K.get H nx a){Q}(hq:Q .normal (zav K vs) (zoz tab Ls) top) :
  (Code.region id ops true).wp P (QQ nt n0 w0 L ι0 H0 B Q) a w:=by
 obtain⟨ok,hchk,hlsF,hlsT⟩:=dx;have hBnx:=s.le;refine wp_region_any hfol ?_
 have main:=zC5 (P:=P) (Qc:=QQ nt n0 w0 L ι0 H0 B Q) hlen (λl a w=>∃ι,In nt n0 w0 L ι0 H0 B w ι (zlu b K (zav K vs) l).get (zoz tab (Ls.filter (getB l))) top a/\(∀i,i<b.length->getB l i=true->∀j∈(ops.toList.map zdA).getD i [],getB l j=true)/\Ls.filter (getB l)∈St) ?_ ?_ b.length (Wj b.length false) a { w with drawn:=w.drawn+1 } (by simp) (by
  have:∀n,zhE (Wj n false)=n:=λn=>by
   induction n with
   |zero=>rfl
   |succ n ih=>rw[WL,zhE,ih];simp;omega
  rw[this]
  exact Nat.le_refl _) ?_
 .rw[hlen]at main;simpa using main
 .rintro l a w hl ⟨ι,s,g,V⟩ hnone
  have Z:∀i,i<b.length->getB l i=true:=by
   intro i
   induction i using Wy with
   |_ i ih=>
    intro x;have:=hnone i x
    cases k:getB l i with
    |true=>rfl
    |false=>have hr:zbC (ops.toList.map zdA) l i=true:=za5.2 ⟨k,λj d=>ih j (ok.low i x j d) (by have:=ok.low i x j d;omega)⟩;rw[this]at hr;cases hr
  have hcnt:Ls.filter (getB l)=Ls:=WM.2 (λm I=>Z m (ok.lin m I));rw[hcnt]at s
  have e:(zlu b K (zav K vs) l).get=(zav K vs).get:=funext λt=>by
   by_cases h:∃i,i<b.length/\(b.getD i default).dst=some t
   .obtain⟨i,x,hd⟩:=h;exact zj2 x (Z i x) hd
   .rw[zmw λi x _ hd=>h ⟨i,x,hd⟩];exact(zgz λhk=>h (ok.keys t hk)).symm
  rw[e]at s;exact⟨ι,_,_,_,s,hq⟩
 .rintro l i a w hl x hr ⟨ι,s,g,V⟩ o ho;obtain⟨C,M⟩:=za5.1 hr;have hA:=zn9 ok g i x M;have hlt:∀j,getB l j=true->j<b.length:=λj d=>by apply Xe;intro hcon;unfold getB at d;rw[Wg,Wz (by omega)]at d;cases d
  have hgetD:∀{t:Nat}{o:AOper},o∈b->o.dst=some t->∃j,j<b.length/\(b.getD j default).dst=some t:=λ{t o} ho hd=>by obtain⟨j,d,he⟩:=WH.1 ho;exact⟨j,d,by rw[Wg,Wn d,he];exact hd⟩
  have z:zfe Ls A i (Ls.filter (getB l))=true:=by
   unfold zfe;simp only[Wc,WE,Wf,Wm];refine⟨?_,λm I=>?_,λm I=>?_⟩
   .cases k:memN (Ls.filter (getB l)) i with
    |false=>rfl
    |true=>have:=(Wi.1 ((zah _ _).1 k)).2;rw[C]at this;cases this
   .cases k:memN (A.getD i []) m with
    |false=>exact .inl rfl
    |true=>exact .inr ((zah _ _).2 (Wi.2 ⟨I,hA m ((zah _ _).1 k)⟩))
   .obtain⟨hmL,hml⟩:=Wi.1 I
    cases k:memN (A.getD m []) i with
    |false=>rfl
    |true=>have:=zn9 ok g m (ok.lin m hmL) (g m (ok.lin m hmL) hml) i ((zah _ _).1 k);rw[C]at this;cases this
  have hlk:∀t∈(b.getD i default).looks,(zlu b K (zav K vs) l).get t=(zxk b A K (zav K vs) i).get t:=λt ht=>by
   rcases ok.look i x t ht with ⟨j,d,hd⟩|h
   .have p:=hA j d;have Y:=hlt j p;rw[zj2 Y p hd,zzF λX=>?_];obtain⟨j',hj',q,hd'⟩:=zre X;have:=ok.one j' j t hj' Y hd' hd;subst this;rcases q with q|q
    .subst q;rw[C]at p;cases p
    .have:=zn9 ok g j' Y (g j' Y p) i q;rw[C]at this;cases this
   .rw[zmw λj d k hd=>?_]
    .by_cases he:∃j,j<b.length/\(b.getD j default).dst=some t
     .obtain⟨j,d,hd⟩:=he;rw[zDy (zHG d (h j d hd) hd)]
     .rw[zzF λX=>(by obtain⟨j,d,_,hd⟩:=zre X;exact he ⟨j,d,hd⟩)];exact(zgz λhk=>he (ok.keys t hk)).symm
    .rcases h j d hd with q|q
     .subst q;rw[C]at k;cases k
     .have:=zn9 ok g j d (g j d k) i q;rw[C]at this;cases this
  have J:∀j,j<b.length->getB (l.set i true) j=true->∀m∈(ops.toList.map zdA).getD j [],getB (l.set i true) m=true:=by
   intro j d hjl m I;rw[zfE (by omega)]at hjl⊢;by_cases F:m=i
   .rw[if_pos F]
   .rw[if_neg F];by_cases y:j=i
    .subst y;exact M m I
    .rw[if_neg y]at hjl;exact g j d hjl m I
  have U:∀j,getB (l.set i true) j=if j=i then true else getB l j:=λj=>zfE (by omega)
  have O:∀t,(b.getD i default).dst≠some t->(zlu b K (zav K vs) (l.set i true)).get t=(zlu b K (zav K vs) l).get t:=λt ht=>by
   by_cases h:∃j,j<b.length/\getB l j=true/\(b.getD j default).dst=some t
   .obtain⟨j,d,k,hd⟩:=h;rw[zj2 d k hd,zj2 d (by rw[U];split<;>first|rfl|exact k) hd]
   .rw[zmw λj d k hd=>h ⟨j,d,k,hd⟩,zmw λj d k hd=>?_];rw[U]at k;by_cases e:j=i
    .subst e;exact ht hd
    .rw[if_neg e]at k;exact h ⟨j,d,k,hd⟩
  have T:∀t,(b.getD i default).dst=some t->(zlu b K (zav K vs) (l.set i true)).get t=(zav K vs).get t:=λt ht=>zj2 x (by rw[U,if_pos rfl]) ht
  have W:i∉Ls->Ls.filter (getB (l.set i true))=Ls.filter (getB l):=λu=>by
   refine WA λm I=>?_
   rw[zfE (by omega),if_neg (λe:m=i=>u (by rw[<-e];exact I))]
  have hro:=hrel i o (b.getD i default) (by simp[ho]) (by rw[Wg,Wn x];rfl)
  have entry:∃e∈plan,e.1=i/\((i∉Ls/\((b.getD i default).sees=false\/e.2.1=Ls.filter (getB l)))\/(i∈Ls/\e.2.1=Ls.filter (getB l)/\e.2.2=Ls.filter (getB (l.set i true))/\Ls.filter (getB (l.set i true))∈St)):=by
   rcases ok.plan i x with ⟨X,R,u,ha⟩|⟨u,hk⟩|⟨c,hk⟩
   .obtain⟨S,hS⟩:=zzi ha;exact⟨_,hS,rfl,.inl ⟨u,.inl R⟩⟩
   .exact⟨_,zud (hk _ V z),rfl,.inl ⟨u,.inr rfl⟩⟩
   .have hnx:zmJ Ls i (Ls.filter (getB l))=Ls.filter (getB (l.set i true)):=by
     unfold zmJ;refine WA λm I=>?_
     rw[zfE (by omega)];by_cases F:m=i
     .subst F;simp[zbB]
     .rw[if_neg F,za3 F,WG]
      cases k:getB l m with
      |true=>exact(zah _ _).2 (Wi.2 ⟨I,k⟩)
      |false=>
       cases hb2:memN (Ls.filter (getB l)) m with
       |false=>rfl
       |true=>have:=(Wi.1 ((zah _ _).1 hb2)).2;rw[k]at this;cases this
    have h2:=ok.stc _ V i c z;rw[hnx]at h2;exact⟨_,zud (hk _ V z),rfl,.inr ⟨c,rfl,hnx,h2⟩⟩
  obtain⟨e,hep,he1,hcase⟩:=entry;have q:=hchk e hep;unfold chkE at q;rw[he1]at q;split at q
  .rename_i v H' nx' hv;rcases hcase with ⟨u,hsee⟩|⟨hil,hS,hS',hst'⟩
   .have X:=hlsT i x u;rw[X]at q;simp only[cond_true]at q;have hex0:ExF P false (b.getD i default) (zlu b K (zav K vs) l).get (zoz tab e.2.1) top (λD _ _=>D=upd (zlu b K (zav K vs) l).get (b.getD i default).dst v):=zEw hs hlk hv rfl;obtain⟨v1,hy,hv1⟩:=znW X hex0
    have hy':Yld P (b.getD i default) (zlu b K (zav K vs) l).get (zoz tab (Ls.filter (getB l))) top v1:=by
     rcases hsee with R|R
     .exact zuK R hy
     .rw[<-R];exact hy
    have hex:ExF P false (b.getD i default) (zlu b K (zav K vs) l).get (zoz tab (Ls.filter (getB l))) top (λD H2 nx2=>D=upd (zlu b K (zav K vs) l).get (b.getD i default).dst v/\H2=zoz tab (Ls.filter (getB l))/\nx2=top):=zlO hy' ⟨hv1,rfl,rfl⟩;refine zoJ hro s hex λw' ι' D H2 nx2 a' c ⟨e1,e2,e3⟩=>?_
    subst e1 e2 e3;refine⟨ι',?_,J,by rw[W u];exact V⟩;rw[W u];refine⟨c.size,c.defers,c.st,c.le,λt=>?_⟩;by_cases hd:(b.getD i default).dst=some t
    .have h1:=c.kn t;rw[upd_eq hd]at h1;rw[hd]at q;rw[T t hd];exact vr_id c.st.rel (zy9 30 _ _ q) h1
    .have h1:=c.kn t;rw[znZ hd]at h1;rw[O t hd];exact h1
   .have X:=hlsF i hil;rw[X]at q;simp only[cond_false,Wc]at q;obtain⟨hc1,hc2,hc3,hc4,hc5,hc6⟩:=q;rw[hS]at hv;rw[hS']at hc3;have hex:ExF P false (b.getD i default) (zlu b K (zav K vs) l).get (zoz tab (Ls.filter (getB l))) top (λD H2 nx2=>D=upd (zlu b K (zav K vs) l).get (b.getD i default).dst v/\H2=H'/\nx2=nx'):=zEw hs hlk hv ⟨rfl,rfl,rfl⟩;refine zoJ hro s hex λw' ι' D H2 nx2 a' c ⟨e1,e2,e3⟩=>?_
    subst e1 e2 e3;have hB:=s.le;have hlo:=bleT hc1;have hle:=bleT hc2;have vw:=zFr (B:=B) (top:=top) (nx2:=top) (H:=H2) (H2:=zoz tab (Ls.filter (getB (l.set i true)))) (Nat.le_trans hBnx hlo) hB hB hle hc3;rw[<-zoa]at c
    obtain⟨ι2,hin2⟩:=c.ent base (K2:=zlu b K (zav K vs) (l.set i true)) (Ent.view _ _ vw λt=>by
     by_cases hd:(b.getD i default).dst=some t
     .rw[zx0 hd,T t hd];rw[hd]at hc4;exact zy9 30 _ _ hc4
     .rw[zyr hd,O t hd];by_cases h:∃j,j<b.length/\getB l j=true/\(b.getD j default).dst=some t
      .obtain⟨j,d,k,N⟩:=h;rw[zj2 d k N];rcases Kn.get_mem (K:=zav K vs) (t:=t)with h|h
       .rw[h];exact .undef _ _
       .have:=Wf.1 hc5 _ h;rcases Wr.1 this with h2|h2
        .exfalso;obtain⟨j',hj',y,hdj'⟩:=zre ((zah _ _).1 h2);have:=ok.one j' j t hj' d hdj' N;subst this;rcases y with y|y
         .subst y;exact hd N
         .have:=zn9 ok g j' d (g j' d k) i y;rw[C]at this;cases this
        .exact zE4 30 _ h2
      .rw[zmw λj d k N=>h ⟨j,d,k,N⟩];rcases Kn.get_mem (K:=K) (t:=t)with h|h
       .rw[h];exact .undef _ _
       .exact zE4 30 _ (Wf.1 hc6 _ h))
    exact⟨ι2,hin2,J,hst'⟩
  .cases q
 .refine⟨ι,?_,λi x h=>?_,?_⟩
  .have h0:Ls.filter (getB (Wj b.length false))=[]:=by
    rw[WF];intro i _;have:getB (Wj b.length false) i=false:=by unfold getB;rw[Wg,Wu];split<;>rfl
    rw[this];simp
   rw[h0,htab];have hd:=s.drewW;refine⟨hd.size,hd.defers,⟨hd.st.ext,hd.st.inj,hd.st.rel.up htop,hd.st.lv⟩,Nat.le_trans hd.le htop,λt=>?_⟩;rw[zmw λi x k _=>?_]
   .exact hd.kn t
   .have:getB (Wj b.length false) i=false:=by unfold getB;rw[Wg,Wu];split<;>rfl
    rw[this]at k;cases k
  .have:getB (Wj b.length false) i=false:=by unfold getB;rw[Wg,Wu];split<;>rfl
   rw[this]at h;cases h
  .have h0:Ls.filter (getB (Wj b.length false))=[]:=by
    rw[WF];intro i _;have:getB (Wj b.length false) i=false:=by unfold getB;rw[Wg,Wu];split<;>rfl
    rw[this];simp
   rw[h0];exact ok.st0
theorem zFW{call:zbN}(M:call.Sound P){s y:Nat}{t:World}{L:Nat->Prop}{c:Inj}{m:AH}{B:Nat}(base:RelH t L c m B){id:Nat}{ops:Array Oper}{k:List AOper}(g:k.length=ops.size)(j:∀(i:Nat)(o:Oper)(u:AOper),ops.toList[i]?=some o->k[i]?=some u->OpRel P s ops o u)(d:P.follows .mixedOrders=true){K:Kn}{H:AH}{nx:Nat}{w:World}{ι:Inj}{a:Act}(p:In s y t L c m B w ι K.get H nx a){r:Kn×AH×Nat}(h:zJY P call k (ops.toList.map zdA) K H nx=some r){Q:QT}(J:Q .normal r.1 r.2.1 r.2.2) :
  (Code.region id ops true).wp P (QQ s y t L c m B Q) a w:=by
 unfold zJY at h;split at h
 .rename_i O N top _;split at h
  .rename_i tab x;unfold drawR at h;generalize v:(We nx top&&_)=b at h
   cases b with
   |false=>cases h
   |true=>
    simp only[cond_true,Ws]at h;subst h;simp only[Wc]at v;obtain⟨z,A,D,C⟩:=v;refine DX.sound M base g j d (bleT z) rfl ⟨dok_of A D,λe F=>Wf.1 C e F,λi n=>?_,λi n q=>?_⟩ p J
    .have:=(Wi.1 n).2;simpa using this
    .cases I:(k.getD i default).fixed with
     |true=>rfl
     |false=>exact(q (Wi.2 ⟨Wl.2 n,by rw[I];rfl⟩)).elim
  .cases h
 .cases h
end
def zrh(nx:Nat):Nat->AV->List Nat
 |0,_=>[]
 |
  d+1,v=>match v with
  |.own r _ _ _ _=>bif Wd r nx then[]else[r]
  |.ptr r _ _ _ _=>bif Wd r nx then[]else[r]
  |.mp r _=>bif Wd r nx then[]else[r]
  |.it r=>bif Wd r nx then[]else[r]
  |.agg l=>l.flatMap (zrh nx d)
  |.tup l=>l.flatMap (zrh nx d)
  |.fn _ l=>l.flatMap (zrh nx d)
  |_=>[]
def zqW(nx:Nat):List AV->List Nat->List Nat
 |[],b=>b
 |
  v::t,b=>match v with
  |.int _ _=>zqW nx t b
  |.sl _ _ _=>zqW nx t b
  |.nilsl=>zqW nx t b
  |v=>zqW nx t (zrh nx 30 v++b)
def zyq(nx:Nat):List (List AV)->List Nat->List Nat
 |[],b=>b
 |c::t,b=>zyq nx t (zqW nx c b)
def zDj(nx:Nat):Option AObj->List Nat->List Nat
 |some (.row _ c _),b=>zyq nx c b
 |some (.fam _ d),b=>d.foldl (λb p=>zyq nx p.1 b) b
 |none,b=>b
def zDA(nx:Nat)(H:AH):Nat->List Nat->Nat->Nat
 |0,_,seen=>seen
 |_+1,[],seen=>seen
 |n+1,r::b,seen=>bif Wh seen r then zDA nx H n b seen else zDA nx H n (zDj nx (H.look r) b) (Nat.lor seen (WD 1 r))
def oldR(nx:Nat):AH->List Nat->List Nat
 |[],b=>b
 |(r,o)::t,b=>bif Wd r nx then oldR nx t (zDj nx (some o) b)else oldR nx t b
def zIX(nx:Nat)(v:AV)(H:AH):Nat:=zDA nx H 3000 (oldR nx H (zrh nx 30 v)) 0
def AH.keepM(nx m:Nat):AH->AH
 |[]=>[]
 |(r,o)::t=>bif Wd r nx||Wh m r then(r,o)::AH.keepM nx m t else AH.keepM nx m t
theorem AH.look_keepM(nx m:Nat)(H:AH)(r:Nat):(H.keepM nx m).look r=bif Wd r nx||Wh m r then H.look r else none:=by
 induction H with
 |nil=>simp only[AH.keepM,AH.look];cases(Wd r nx||Wh m r)<;>rfl
 |cons p t ih=>
  obtain⟨j,o⟩:=p;simp only[AH.keepM]
  cases c:(Wd j nx||Wh m j)with
  |true=>
   simp only[cond_true,AH.look,ih]
   cases b:Wa j r with
   |true=>rw[<-zj b,c];rfl
   |false=>rfl
  |false=>
   simp only[cond_false,ih,AH.look]
   cases b:Wa j r with
   |true=>rw[<-zj b,c];rfl
   |false=>rfl
theorem AH.get_keepM(nx m:Nat)(H:AH)(r q:Nat):(H.keepM nx m).get r q=bif Wd r nx||Wh m r then H.get r q else none:=by unfold AH.get;rw[AH.look_keepM];cases(Wd r nx||Wh m r)<;>rfl
def gcH(nx:Nat)(v:AV)(H:AH)(b:Nat):AH:=bif We b (nx+4)then H else H.keepM nx (zIX nx v H)
theorem zIF{nx}{v}{H}{nx' r q}{o}(h:(gcH nx v H nx').get r q=some o):H.get r q=some o:=by
 unfold gcH at h
 cases b:We nx' (nx+4)with
 |true=>rw[b]at h;exact h
 |false=>
  rw[b]at h;simp only[cond_false,AH.get_keepM]at h
  cases c:(Wd r nx||Wh (zIX nx v H) r)with
  |true=>rw[c]at h;exact h
  |false=>rw[c]at h;cases h
theorem zFI{nx}{v}{H}{nx' r}{o}(h:(gcH nx v H nx').look r=some o):H.look r=some o:=by
 unfold gcH at h
 cases b:We nx' (nx+4)with
 |true=>rw[b]at h;exact h
 |false=>
  rw[b]at h;simp only[cond_false,AH.look_keepM]at h
  cases c:(Wd r nx||Wh (zIX nx v H) r)with
  |true=>rw[c]at h;exact h
  |false=>rw[c]at h;cases h
section
variable {P:Program}
theorem RelH.sub{w}{L}{ι}{H H'}{nx}(rel:RelH w L ι H nx)(e:∀r q o,H'.get r q=some o->H.get r q=some o)(hd:∀r o,H'.look r=some o->r<nx):
  (∀b,live ι H' b->live ι H b)/\RelH w L ι H' nx:=by
 have m:∀b,live ι H' b->live ι H b:=λb ⟨r,q,n,c,g,l,d,j,p,s⟩=>⟨r,q,n,c,g,l,e _ _ _ d,j,p,s⟩
 have k:∀b,Lt L ι H' b->Lt L ι H b:=λb h=>h.elim .inl λh=>.inr (m b h)
 refine⟨m,λr q n c g h=>?_,λI D J F K x z B M y A C d j=>rel.apart _ _ _ _ _ _ _ _ _ _ _ _ (e _ _ _ d) (e _ _ _ j),λb t=>rel.out b (m b t),rel.idx,hd,λr q n c g h=>rel.gen _ _ _ _ _ (e _ _ _ h),rel.Lsz⟩;obtain⟨l,d,ok⟩:=rel.row _ _ _ _ _ (e _ _ _ h);exact⟨l,d,ok.trans (λ_=>rfl) λv a u=>u.anti k⟩
theorem zIY{f}{args}{H}{nx}{k}(h:zG P f args H nx (λv m c=>k v (gcH nx v m c) c)):zG P f args H nx k:=by
 intro w L ι A p s;refine(h w L ι A p s).mono λe B ⟨v,j,m,c,a,t,d,u,x,y⟩=>?_
 obtain⟨n,z⟩:=d.rel.sub (λr q o h=>zIF h) (λr o h=>d.rel.dom r o (zFI h));exact⟨v,j,_,c,a,t,⟨d.ext,d.inj,z,λb g=>d.lv b (n b g)⟩,u,x.anti λb g=>g.elim .inl λg=>.inr (n b g),y⟩
def zAS(P:Program)(g:FuncId->Nat->List Nat)(b:zbN)(d:Nat->(Nat->List Nat)->Code->Kn->AH->Nat->Option Out):zbN:=λf args H nx=>
 match b f args H nx with
 |some r=>some r
 |
  none=>match P.funcs[f]? with
  |
   some fn=>match fn.body with
   |
    some c=>match fn.results.toList.mapM (cret P)with
    |
     some rs=>bif We args.length fn.ntmps then
      match d fn.ntmps (g f) c (zl0 0 args) H nx with
      |
       some (e,K,H',nx')=>match e with
       |.exit _=>none
       |.goto _=>none
       |_=>bif retS K H' rs then some (zkm (zaO K H' nx' rs),gcH nx (zkm (zaO K H' nx' rs)) H' nx',nx')else none
      |none=>none
     else none
    |none=>none
   |none=>none
  |none=>none
def zrJ:Nat->Kn->Kn
 |_,[]=>[]
 |m,(j,v)::t=>bif Wh m j then(j,v)::zrJ (Nat.xor m (WD 1 j)) t else zrJ m t
theorem zHf{m j i}:Wh (Nat.xor m (WD 1 j)) i=(Wh m i ^^ Wa j i):=by
 have h:WD 1 j=2 ^ j:=by show 1 <<< j=2 ^ j;rw[Nat.shiftLeft_eq,Nat.one_mul]
 rw[h];have c:Nat.xor m (2 ^ j)=m ^^^ 2 ^ j:=rfl;rw[c,Nat.testBit_xor,Nat.testBit_two_pow];congr 1
 cases b:Wa j i with
 |true=>exact decide_eq_true (zj b)
 |false=>exact decide_eq_false λe=>by rw[e,zbB]at b;cases b
theorem zr4:∀(K:Kn)(m:Nat)(i:Nat),(zrJ m K).get i=bif Wh m i then K.get i else .undef
 |[],m,i=>by simp only[zrJ,Xa];cases Wh m i<;>rfl
 |
  (j,v)::t,m,i=>by
  unfold zrJ
  cases c:Wh m j with
  |true=>
   simp only[cond_true,Xa]
   cases b:Wa j i with
   |true=>rw[<-zj b,c];rfl
   |false=>simp only[cond_false];rw[zr4 t,zHf,b,Bool.xor_false]
  |false=>
   simp only[cond_false,Xa];rw[zr4 t]
   cases b:Wa j i with
   |true=>rw[<-zj b,c];rfl
   |false=>rfl
def zIO:List Nat->Nat
 |m::_=>m
 |[]=>0
def outR(r:ORes):AV×AH×Nat:=(r.v,r.H,r.nx)
def zJQ(P:Program)(call:zbN)(op:AOp)(ρ:Nat->AV)(H:AH)(nx:Nat):Option (AV×AH×Nat) :=
 match op with
 |.mov x=>some (ev ρ x,H,nx)
 |.load g n p=>bif zES n (ev ρ p) H then some (outR (zdX g n (ev ρ p) H nx))else none
 |.store n p v=>bif zzQ n (ev ρ p) (ev ρ v) H then some (outR (zfs n (ev ρ p) (ev ρ v) H nx))else none
 |.idx d x i=>bif idxS d (ev ρ x) (ev ρ i) H then some (outR (idxR d (ev ρ x) (ev ρ i) H nx))else none
 |.fldaddr off n x=>bif ztC off n (ev ρ x)then some (outR (zcF off n (ev ρ x) H nx))else none
 |.fld off n g x=>bif fldS off n (ev ρ x)then some (outR (fldR off n g (ev ρ x) H nx))else none
 |.len x=>bif lenS (ev ρ x)then some (outR (lenR (ev ρ x) H nx))else none
 |.bin o x y=>bif binS o (ev ρ x) (ev ρ y)then some (outR (binI o (ev ρ x) (ev ρ y) H nx))else none
 |.un o x=>bif unS o (ev ρ x)then some (outR (unR o (ev ρ x) H nx))else none
 |.pick c a b=>bif zIL (ev ρ c)then some (outR (zkN (ev ρ c) (ev ρ a) (ev ρ b) H nx))else none
 |.append d bytes x y=>bif ztF d bytes (ev ρ x) (ev ρ y) H then some (outR (zeX d bytes (ev ρ x) (ev ρ y) H nx))else none
 |.ext i x=>bif extS i (ev ρ x)then some (outR (extR i (ev ρ x) H nx))else none
 |op=>zrV P call op ρ H nx
theorem zGD{P}{call:zbN}{op}{ρ}{H}{nx}:zJQ P call op ρ H nx=zrV P call op ρ H nx:=by cases op<;>rfl
def valS(P:Program)(call:zbN)(o:AOper)(ρ:Nat->AV)(H:AH)(nx:Nat):Option (AV×AH×Nat) :=
 match o.guard with
 |none=>zJQ P call o.op ρ H nx
 |
  some (t,want)=>match grd want (ρ t)with
  |some true=>zJQ P call o.op ρ H nx
  |some false=>some (.tup [],H,nx)
  |none=>none
theorem zJt{P}{call:zbN}{o}{ρ}{H}{nx}:valS P call o ρ H nx=valX P call o ρ H nx:=by unfold valS valX;simp only[zGD]<;>rcases o.guard with _|⟨t,b⟩<;>first|rfl|(rcases c:grd b (ρ t)with _|(_|_)<;>simp only[c])
def zCz(K:Kn):Option Nat->AV->Kn
 |none,_=>K
 |some d,v=>(d,v)::K
theorem zrF{K1 K}(h:K.get=K1.get)(d)(v):(setO K d v).get=(zCz K1 d v).get:=by
 cases d with
 |none=>exact h
 |some d=>
  funext i;simp only[setO,zCz,Xb,Xa];by_cases b:i=d
  .rw[if_pos b,b,zbB];rfl
  .rw[if_neg b,za3 (Ne.symm b),h];rfl
def opsP(P:Program)(call:zbN):List AOper->Kn->AH->Nat->Option St3
 |[],K,H,nx=>some (K,H,nx)
 |
  o::os,K,H,nx=>match valS P call o K.get H nx with
  |some (v,c,b)=>opsP P call os (zCz K o.dst v) c b
  |none=>none
def zAJ(P:Program)(call:zbN):DTree->Kn->AH->Nat->Option St3
 |.done,K,H,nx=>some (K,H,nx)
 |.stop,_,_,_=>none
 |
  .step o t,K,H,nx=>match valS P call o K.get H nx with
  |some (v,c,b)=>zAJ P call t (zCz K o.dst v) c b
  |none=>none
 |
  .alt o t .stop,K,H,nx=>match valS P call o K.get H nx with
  |some (v,c,b)=>zAJ P call t (zCz K o.dst v) c b
  |none=>none
 |.alt _ _ _,_,_,_=>none
theorem ztu{call:zbN}{o:AOper}{K d:Kn}(k:K.get=d.get){H:AH}{nx:Nat}{v:AV}{c:AH}{b:Nat}(h:valS P call o d.get H nx=some (v,c,b)):oneX P call o K H nx=some (setO K o.dst v,c,b):=by
 rw[zJt]at h;unfold valX at h;unfold oneX;rw[k]
 cases g:o.guard with
 |none=>rw[g]at h;simp only at h⊢;rw[h]
 |some p=>
  obtain⟨t,j⟩:=p;rw[g]at h;simp only at h⊢;split at h
  .rename_i e;simp only[e,h]
  .rename_i e;cases h;simp only[e]
  .cases h
theorem zCa{call:zbN}:∀{g:List AOper}{c K:Kn}{H:AH}{nx:Nat}{r:St3},opsP P call g c H nx=some r->K.get=c.get->∃b,zDu P call g K H nx=some (b,r.2)/\b.get=r.1.get
 |
  [],c,K,H,nx,r,h,d=>by
  cases h;exact⟨K,rfl,d⟩
 |
  o::g,c,K,H,nx,r,h,d=>by
  simp only[opsP]at h;split at h
  .rename_i v n m e;obtain⟨b,j,k⟩:=zCa h (zrF d o.dst v);refine⟨b,?_,k⟩;simp only[zDu,ztu d e];exact j
  .cases h
theorem ztN{call:zbN}:∀{t:DTree}{d K:Kn}{H:AH}{nx:Nat}{r:St3},zAJ P call t d H nx=some r->K.get=d.get->∃c,zpE P call t K H nx=some (c,r.2)/\c.get=r.1.get
 |
  .done,d,K,H,nx,r,h,b=>by
  cases h;exact⟨K,rfl,b⟩
 |.stop,_,_,_,_,_,h,_=>by cases h
 |
  .step o t,d,K,H,nx,r,h,b=>by
  simp only[zAJ]at h;split at h
  .rename_i v m k e;obtain⟨c,g,j⟩:=ztN h (zrF b o.dst v);refine⟨c,?_,j⟩;simp only[zpE,ztu b e];exact g
  .cases h
 |
  .alt o t .stop,d,K,H,nx,r,h,b=>by
  simp only[zAJ]at h;split at h
  .rename_i v m k e;obtain⟨c,g,j⟩:=ztN h (zrF b o.dst v);refine⟨c,?_,j⟩;simp only[zpE,ztu b e];exact g
  .cases h
 |.alt _ _ .done,_,_,_,_,_,h,_=>by cases h
 |.alt _ _ (.step _ _),_,_,_,_,_,h,_=>by cases h
 |.alt _ _ (.alt _ _ _),_,_,_,_,_,h,_=>by cases h
def outK(l:Nat):Option St3->Option Out
 |some (K,H,nx)=>some (.normal,zrJ l K,H,nx)
 |none=>none
def regX(P:Program)(call:zbN)(b:Nat)(q:Nat->List Nat)(id:Nat)(ops:Array Oper)(draw:Bool)(K:Kn)(H:AH)(nx:Nat):Option Out :=
 match ops.toList.mapM (zDz P b ops)with
 |none=>none
 |
  some as'=>bif draw then
   (bif P.follows .mixedOrders&&(Wk ops.size).all (λj=>((ops.toList.map zdA).getD j []).all λi=>Wd i j)then
    match zAJ P call (zd9 ((zgu (q id) 0 as').map (AOper.ro (q 999999))) (ops.toList.map zdA) ops.size (Wj ops.size false)) K H nx with
    |some r=>outK (zIO (q 999998)) (some r)
    |none=>outK (zIO (q 999998)) (zJY P call ((zgu (q id) 0 as').map (AOper.ro (q 999999))) (ops.toList.map zdA) K H nx)
   else none)
  else outK (zIO (q 999998)) (opsP P call (as'.map (AOper.ro (q 999999))) K H nx)
def zFZ(l:Nat)(b:Kn->AH->Nat->Option Out):Nat->Option Out->Option Out
 |0,_=>none
 |
  m+1,r=>match r with
  |some (.goto c,K,H,nx)=>bif Wa c l then zFZ l b m (b K H nx)else none
  |r=>r
def zhm(P:Program)(g:FuncId->Nat->List Nat)(d:zbN):Nat->Nat->(Nat->List Nat)->Code->Kn->AH->Nat->Option Out
 |0,_,_,_,_,_,_=>none
 |
  n+1,nt,q,c,K,H,nx=>match c with
  |.skip=>some (.normal,K,H,nx)
  |.region id ops draw=>regX P (zAS P g d (zhm P g d n)) nt q id ops draw K H nx
  |
   .seq a b=>match zhm P g d n nt q a K H nx with
   |some (.normal,k,h,e)=>zhm P g d n nt q b k h e
   |r=>r
  |
   .cond c a b=>match copd c with
   |
    some x=>match ev K.get x with
    |.bool true=>zhm P g d n nt q a K H nx
    |.bool false=>zhm P g d n nt q b K H nx
    |_=>none
   |none=>none
  |
   .block id c=>match zhm P g d n nt q c K H nx with
   |some (.exit j,k,h,e)=>bif Wa j id then some (.normal,k,h,e)else some (.exit j,k,h,e)
   |r=>r
  |
   .loop c=>match zhm P g d n nt q c K H nx with
   |some (.normal,k,h,e)=>zhm P g d n nt q (.loop c) k h e
   |r=>r
  |.exit id=>some (.exit id,K,H,nx)
  |.ret=>some (.ret,K,H,nx)
  |
   .scope c=>match zhm P g d n nt q c K H nx with
   |
    some (.goto l,k,h,e)=>match findLabel c l with
    |some m=>zFZ l (zhm P g d n nt q m) n (zhm P g d n nt q m k h e)
    |none=>none
   |r=>r
  |.label _=>some (.normal,K,H,nx)
  |.goto l=>some (.goto l,K,H,nx)
  |_=>none
variable {qf:FuncId->Nat->List Nat}{orc:zbN}
def RunC(P:Program)(qf:FuncId->Nat->List Nat)(orc:zbN)(n:Nat):Prop :=
 ∀(g:Nat)(L:Nat->Prop)(d:World)(b:Inj)(e:AH)(B:Nat),RelH d L b e B->∀(q:Nat->List Nat)(c:Code)(w:World)(ι:Inj)(K:Kn)(H:AH)(nx:Nat)(a:Act)(r:Out),
  In g d.heap.size d L b e B w ι K.get H nx a->zhm P qf orc n g q c K H nx=some r->c.wp P (QQ g d.heap.size d L b e B (QX r)) a w
def zzZ(P:Program)(qf:FuncId->Nat->List Nat)(orc:zbN)(n:Nat):Prop :=
 ∀(g:Nat)(L:Nat->Prop)(d:World)(b:Inj)(e:AH)(B:Nat),RelH d L b e B->∀(q:Nat->List Nat)(c:Code)(w:World)(ι:Inj)(K:Kn)(H:AH)(nx:Nat)(a:Act)(r:Out),
  In g d.heap.size d L b e B w ι K.get H nx a->zhm P qf orc n g q (.loop c) K H nx=some r->Code.rounds P c (QQ g d.heap.size d L b e B (QX r)) n a w
theorem zIe{f}{fn}{c}{rs}(d:P.funcs[f]?=some fn)(b:fn.body=some c)(g:fn.results.toList.mapM (cret P)=some rs){args}{H}{nx}{Post}(e:args.length<=fn.ntmps)(h:∀(w:World)(L:Nat->Prop)(ι:Inj)(a:Act),RelH w L ι H nx->In fn.ntmps w.heap.size w L ι H nx w ι (zl0 0 args).get H nx a->c.wp P (QQ fn.ntmps w.heap.size w L ι H nx (retK rs Post)) a w):zG P f args H nx Post :=
 zDM d b g e h
theorem zqQ(J:orc.Sound P){n}(M:RunC P qf orc n):(zAS P qf orc (zhm P qf orc n)).Sound P:=by
 intro f args H nx r h;unfold zAS at h;split at h
 .rename_i O e;cases h;exact J f args H nx _ e
 .split at h
  .rename_i fn I;split at h
   .rename_i c D;split at h
    .rename_i k x
     cases g:We args.length fn.ntmps with
     |false=>rw[g]at h;cases h
     |true=>
      rw[g]at h;simp only[cond_true]at h;split at h
      .rename_i e K d b F
       have key:(∀id,e≠.exit id)->(∀l,e≠.goto l)->(bif retS K d k then some (zkm (zaO K d b k),gcH nx (zkm (zaO K d b k)) d b,b)else none)=some r->zG P f args H nx (λv d b=>(v,d,b)=r):=by
        intro o p h
        cases s:retS K d k with
        |false=>rw[s]at h;cases h
        |true=>
         rw[s]at h;simp only[cond_true,Ws]at h;subst h;refine zIY (zIe I D x (bleT g) λw L ι a rel u=>?_);refine wp_mono (M fn.ntmps L w ι H nx rel (qf f) c w ι _ H nx a _ u F) λC N Q ⟨y,B,A,nx2,m,q⟩=>⟨y,B,A,nx2,m,?_⟩
         have z:retK k (λv t j=>(v,gcH nx v t j,j)=(zkm (zaO K d b k),gcH nx (zkm (zaO K d b k)) d b,b)) e K d b:=by
          cases e with
          |exit id=>exact absurd rfl (o id)
          |goto l=>exact absurd rfl (p l)
          |normal=>exact⟨zua s,rfl⟩
          |ret=>exact⟨zua s,rfl⟩
         cases C with
         |normal=>cases q;exact z
         |exit id=>cases q;exact absurd rfl (o id)
         |ret=>cases q;exact z
         |goto l=>cases q;exact absurd rfl (p l)
         |_=>exact q.elim
       cases e with
       |exit id=>cases h
       |goto l=>cases h
       |normal=>exact key (by intro id e;cases e) (by intro id e;cases e) h
       |ret=>exact key (by intro id e;cases e) (by intro id e;cases e) h
      .cases h
    .cases h
   .cases h
  .cases h
theorem Kn.drop_nil:∀K:Kn,K.drop []=K
 |[]=>rfl
 |
  (j,v)::t=>by
  show(j,v)::Xd t []=(j,v)::t;rw[Kn.drop_nil t]
theorem zyv{l}{r:Option St3}{o:Out}(h:outK l r=some o):∃s,r=some s/\o=(.normal,zrJ l s.1,s.2.1,s.2.2):=by
 cases r with
 |none=>cases h
 |some s=>obtain⟨K,H,nx⟩:=s;cases h;exact⟨_,rfl,rfl⟩
theorem In.less{nt n0}{w0}{L}{ι0}{H0}{B}{w}{ι}{ρ ρ2}{H}{nx}{a:Act}(h:In nt n0 w0 L ι0 H0 B w ι ρ H nx a)(b:∀i,ρ2 i=.undef\/ρ2 i=ρ i):In nt n0 w0 L ι0 H0 B w ι ρ2 H nx a :=
 ⟨h.size,h.defers,h.st,h.le,λi=>by rcases b i with e|e<;>rw[e];exact .undef _ _;exact h.kn i⟩
theorem zBz{l:Nat}{K b:Kn}(h:b.get=K.get)(i:Nat):(zrJ l K).get i=.undef\/(zrJ l K).get i=b.get i:=by
 rw[zr4,h];cases Wh l i
 .exact .inl rfl
 .exact .inr rfl
theorem zyg{c:Code}{n m:Nat}{o:World}{L:Nat->Prop}{e:Inj}{j:AH}{B:Nat}{l:Nat}{K k:Kn}{H:AH}{nx:Nat}{a:Act}{w:World}(q:k.get=K.get)(h:c.wp P (QQ n m o L e j B (QX (.normal,k,H,nx))) a w):c.wp P (QQ n m o L e j B (QX (.normal,zrJ l K,H,nx))) a w:=by
 refine wp_mono h λp u v ⟨g,t,s,nx1,b,d⟩=>?_
 cases p with
 |normal=>cases d;exact⟨g,zrJ l K,_,_,b.less (zBz q),rfl⟩
 |exit id=>cases d
 |ret=>cases d
 |goto l=>cases d
 |_=>exact d.elim
theorem zIu{call:zbN}(A:call.Sound P){nt n0}{w0}{L}{ι0}{H0}{B}(base:RelH w0 L ι0 H0 B){q}{id}{ops}{draw}{K}{H}{nx}{w}{ι}{a:Act}{r:Out}(g:In nt n0 w0 L ι0 H0 B w ι K.get H nx a)(h:regX P call nt q id ops draw K H nx=some r):(Code.region id ops draw).wp P (QQ nt n0 w0 L ι0 H0 B (QX r)) a w:=by
 unfold regX at h;split at h
 .cases h
 .rename_i j I;obtain⟨C,x⟩:=zue I
  cases draw with
  |false=>
   simp only[cond_false]at h;obtain⟨s,v,rfl⟩:=zyv h;obtain⟨u,e,z⟩:=zCa v rfl;refine zyg z ?_;refine wp_region_list (zpj _ _ (by simpa using C) (λi o m n k=>?_) g (zza (drop:=[]) A e ?_))
   .rw[Wt]at k;obtain⟨b,p,rfl⟩:=WB.1 k;exact(x i o b n p).ro
   .have:u.drop []=u:=Kn.drop_nil _;rw[this];rfl
  |true=>
   simp only[cond_true]at h;generalize t:(P.follows .mixedOrders&&_)=b at h
   cases b with
   |false=>cases h
   |true=>
    simp only[Wc]at t;simp only[cond_true]at h;have c:((zgu (q id) 0 j).map (AOper.ro (q 999999))).length=ops.size:=by rw[WK,zjB,C];simp
    have d:∀(i:Nat)(o:Oper)(m:AOper),ops.toList[i]?=some o->((zgu (q id) 0 j).map (AOper.ro (q 999999)))[i]?=some m->OpRel P nt ops o m:=λi o m n k=>by
     rw[Wt]at k;obtain⟨J,y,rfl⟩:=WB.1 k;obtain⟨b,p,F⟩:=znv _ _ _ _ _ y;rcases F with rfl|rfl
     .exact(x i o _ n p).ro
     .exact(x i o _ n p).quiet.ro
    split at h
    .rename_i s v;obtain⟨M,D,rfl⟩:=zyv h;cases D;obtain⟨u,e,z⟩:=ztN v rfl;refine zyg z ?_;refine zCR nt _ w0 L ι0 H0 B id ops _ [] _ c d t.1 t.2 w ι K H nx a g (zsc A e ?_);rw[Kn.drop_nil];rfl
    .obtain⟨s,e,rfl⟩:=zyv h;exact zyg rfl (zFW A base c d t.1 g e rfl)
theorem zCt(ho:orc.Sound P):∀n,RunC P qf orc n/\zzZ P qf orc n
 |0=>⟨λ_ _ _ _ _ _ _ _ _ _ _ _ _ _ _ _ _ h=>(by cases h),λ_ _ _ _ _ _ _ _ _ _ _ _ _ _ _ _ _ h=>(by cases h)⟩
 |
  n+1=>by
  obtain⟨t,ihL⟩:=zCt ho n;have T:=zqQ ho t
  have y:zzZ P qf orc (n+1):=by
   intro A L C p D B base q c w ι K H nx a r k h;rw[rounds_succ];simp only[zhm]at h;split at h
   .rename_i K' Z W e;refine wp_mono (t A L C p D B base q c w ι K H nx a _ k e) λz N O ⟨g,x,v,nx1,b,d⟩=>?_
    cases z with
    |normal=>cases d;exact ihL A L C p D B base q c O g _ _ _ N r b h
    |exit id=>cases d
    |ret=>cases d
    |goto l=>cases d
    |_=>exact d.elim
   .rename_i r' F;refine wp_mono (t A L C p D B base q c w ι K H nx a r k h) λz N O ⟨g,x,v,nx1,b,d⟩=>?_
    cases z with
    |normal=>cases d;exact absurd h (F x v nx1)
    |exit id=>exact⟨g,x,v,nx1,b,d⟩
    |ret=>exact⟨g,x,v,nx1,b,d⟩
    |goto l=>exact⟨g,x,v,nx1,b,d⟩
    |_=>exact d.elim
  refine⟨?_,y⟩;intro A L C p D B base q c w ι K H nx a r k h
  cases c with
  |skip=>cases h;exact wp_skip ⟨ι,K,H,nx,k,rfl⟩
  |label l=>cases h;exact wp_label ⟨ι,K,H,nx,k,rfl⟩
  |goto l=>cases h;exact wp_goto ⟨ι,K,H,nx,k,rfl⟩
  |exit id=>cases h;exact wp_exit ⟨ι,K,H,nx,k,rfl⟩
  |ret=>cases h;exact wp_ret ⟨ι,K,H,nx,k,rfl⟩
  |region id ops draw=>exact zIu T base k h
  |seq R c2=>
   simp only[zhm]at h;split at h
   .rename_i K' Z W e;refine wp_seq (wp_mono (t A L C p D B base q R w ι K H nx a _ k e) λz N O ⟨g,x,v,nx1,b,d⟩=>?_)
    cases z with
    |normal=>cases d;exact t A L C p D B base q c2 O g _ _ _ N r b h
    |exit id=>cases d
    |ret=>cases d
    |goto l=>cases d
    |_=>exact d.elim
   .rename_i r' F;refine wp_seq (wp_mono (t A L C p D B base q R w ι K H nx a r k h) λz N O ⟨g,x,v,nx1,b,d⟩=>?_)
    cases z with
    |normal=>cases d;exact absurd h (F x v nx1)
    |exit id=>exact⟨g,x,v,nx1,b,d⟩
    |ret=>exact⟨g,x,v,nx1,b,d⟩
    |goto l=>exact⟨g,x,v,nx1,b,d⟩
    |_=>exact d.elim
  |cond x1 R c2=>
   simp only[zhm]at h;split at h
   .rename_i x' hx;have X:=zn k.kn hx;split at h
    .rename_i U;rw[U]at X;generalize hu:a.eval x1=u at X;cases X;exact wp_cond_true hu (t A L C p D B base q R w ι K H nx a r k h)
    .rename_i U;rw[U]at X;generalize hu:a.eval x1=u at X;cases X;exact wp_cond_false hu (t A L C p D B base q c2 w ι K H nx a r k h)
    .cases h
   .cases h
  |block id R=>
   simp only[zhm]at h;split at h
   .rename_i j K' Z W e;refine wp_block (wp_mono (t A L C p D B base q R w ι K H nx a _ k e) λz N O ⟨g,x,v,nx1,b,d⟩=>?_)
    cases z with
    |normal=>cases d
    |exit j'=>
     cases d;simp only[Exit.inBlock];by_cases hj:j=id
     .subst hj;rw[if_pos rfl];rw[zbB]at h;cases h;exact⟨g,_,_,_,b,rfl⟩
     .rw[if_neg hj];rw[za3 hj]at h;cases h;exact⟨g,_,_,_,b,rfl⟩
    |ret=>cases d
    |goto l=>cases d
    |_=>exact d.elim
   .rename_i r' F;refine wp_block (wp_mono (t A L C p D B base q R w ι K H nx a r k h) λz N O ⟨g,x,v,nx1,b,d⟩=>?_)
    cases z with
    |normal=>exact⟨g,x,v,nx1,b,d⟩
    |exit j'=>cases d;exact absurd h (F j' x v nx1)
    |ret=>exact⟨g,x,v,nx1,b,d⟩
    |goto l=>exact⟨g,x,v,nx1,b,d⟩
    |_=>exact d.elim
  |loop R=>exact wp_loop_rounds (n+1) (y A L C p D B base q R w ι K H nx a r k h)
  |scope R=>
   simp only[zhm]at h;split at h
   .rename_i l K' Z W e;split at h
    .rename_i M V;let G:Nat->Act->World->Prop:=λm a w=>∃ι K H nx,In A C.heap.size C L p D B w ι (Xa K) H nx a/\zFZ l (zhm P qf orc n A q M) m (zhm P qf orc n A q M K H nx)=some r
     have jm:∀{Q:Exit->Act->World->Prop}{J J':Act->World->Prop}{cz:Code}{a:Act}{w:World},(∀a w,J a w->J' a w)->cz.wp P (Exit.jump l J Q) a w->cz.wp P (Exit.jump l J' Q) a w:=by
      intro Q J J' cz a w hJ h;refine wp_mono h λz N O d=>?_
      cases z with
      |goto l'=>exact⟨d.1,hJ _ _ d.2⟩
      |_=>exact d
     refine wp_scope_jumps l (λa w=>∃m,G m a w) (zky G) V ?_ ?_
     .refine wp_mono (t A L C p D B base q R w ι K H nx a _ k e) λz N O ⟨g,x,v,nx1,b,d⟩=>?_
      cases z with
      |goto l'=>cases d;exact⟨rfl,n,g,_,_,_,b,h⟩
      |normal=>cases d
      |exit id=>cases d
      |ret=>cases d
      |_=>exact d.elim
     .intro N O hJ;obtain⟨g,x,v,nx1,b,s⟩:=zpC hJ
      cases Y:zky G N O with
      |zero=>rw[Y]at s;cases s
      |succ m=>
       rw[Y]at s
       cases hz:zhm P qf orc n A q M x v nx1 with
       |none=>rw[hz]at s;cases s
       |some o=>
        obtain⟨e1,K2,H2,nx2⟩:=o;refine jm (λa2 w2 (h:G m a2 w2)=>⟨⟨_,h⟩,Nat.lt_succ_of_le (zs3 h)⟩) (wp_mono (t A L C p D B base q M O g x v nx1 N _ b hz) λz a2 w2 ⟨S,K3,H3,nx3,I,d⟩=>?_);rw[hz]at s
        cases z with
        |goto l'=>
         cases d;simp only[zFZ]at s
         cases hb:Wa l' l with
         |false=>rw[hb]at s;cases s
         |true=>rw[hb]at s;exact⟨zj hb,S,_,_,_,I,s⟩
        |normal=>cases d;cases s;exact⟨S,_,_,_,I,rfl⟩
        |exit id=>cases d;cases s;exact⟨S,_,_,_,I,rfl⟩
        |ret=>cases d;cases s;exact⟨S,_,_,_,I,rfl⟩
        |_=>exact d.elim
    .cases h
   .rename_i r' F;refine wp_scope_straight (wp_mono (t A L C p D B base q R w ι K H nx a r k h) λz N O ⟨g,x,v,nx1,b,d⟩=>?_)
    cases z with
    |normal=>exact⟨g,x,v,nx1,b,d⟩
    |exit id=>exact⟨g,x,v,nx1,b,d⟩
    |ret=>exact⟨g,x,v,nx1,b,d⟩
    |goto l=>cases d;exact absurd h (F l x v nx1)
    |_=>exact d.elim
  |_=>cases h
theorem zsU(c:orc.Sound P)(n){f}{args}{H}{nx}{r}(h:zAS P qf orc (zhm P qf orc n) f args H nx=some r):zG P f args H nx (λv d b=>(v,d,b)=r) :=
 zqQ c (zCt c n).1 f args H nx r h
def zDL(b:Bool):Option (AV×AH×Nat)->Bool
 |some (.bool c,_,_)=>c == b
 |_=>false
theorem zBB(j:orc.Sound P)(n:Nat){f:FuncId}{args:List AV}{b:Bool}(h:zDL b (zAS P qf orc (zhm P qf orc n) f args [] 0)=true):zq P f args (·=.bool b):=by
 unfold zDL at h;split at h
 .rename_i c m k e;have d:c=b:=by simpa using h
  subst d;exact(zsU j n e).mono λv o nx1 g=>by cases g;exact⟨_,.bool _ _,rfl⟩
 .cases h
def qEx:List (Nat×List Nat)->Nat->List Nat
 |[],_=>Wk 150
 |(j,l)::t,i=>bif Wa j i then(Wk 150).filter (λx=> !memN l x)else qEx t i
def qTabK:List (Nat×List Nat×List Nat×List (Nat×List Nat))->FuncId->Nat->List Nat
 |[],_=>qAll
 |(g,ro,c,b)::t,f=>bif Wa g f then(λid=>bif Wa id 999999 then ro else bif Wa id 999998 then c else qEx b id)else qTabK t f
end
end Go.Ab
