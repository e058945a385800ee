/-
  Part 1 of the proof: how the calls of this program run, over values instead of memory, and what each function computes.
-/
import Derived.WalkKit
import Derived.Deep.Upon
import Derived.Deep.MidRow
import Derived.Deep.Quiet
import Derived.Deep.Slices
import Derived.OpenShut
set_option maxRecDepth 100000
set_option linter.unusedVariables false
set_option linter.unusedSimpArgs false
set_option linter.unnecessarySimpa false
set_option linter.unusedSectionVars false
open Go.Sem renaming run_bind->Xa,run_pure->Xx
open Go.Builtin renaming zeroCells->Xb,len_->Xl,append_->XG,clear_->XH,firstCells->XQ
open BitVec renaming ofInt->Xc
open Go.Instr renaming sliceBounds->Xd,sureAddr->Xe,loadAt->Xi,fill->Xm,buildSlice->Xn,sliceAt->Xo,box->Xs,sliceBound->Xv,indexAt->Xz,fieldAt->XA,field->XB,makeSlice->XD,storeAt->XE,extract->XN,build->XO,alloc->XP
open Ne renaming symm->Xf
open Go.Addr renaming add->Xg
open Go.World renaming cell?_alloc_new->Xh,setCells->Xw,frozen?_setCells->XF,frozen?_alloc_new->XI
open Go.Op renaming intCmp->Xj,intArith->Xq,intBits->Xr,unary->XC,intDiv->XK,shift->XL,equalIn->XM
open Go.Deep renaming add_add->Xk,choose_lt->XJ
open Go.RowKit.Below renaming heap_alloc->Xp
open Go.Src renaming ofSlice->Xt,ofNil->Xu
open Go.Result renaming andThen_ok->Xy
open Nat renaming beq→Wa,le_refl→Wc,add_mul→We,mul_le_mul_right→Wi,mul_pos→Wk,eq_zero_or_pos→Wm,zero_add→Wp,zero_le→Wr,add_assoc→Ws,mul_comm→Wv,lt_of_lt_of_le→Wy,lt_irrefl→Wz,zero_mul→WH,le_trans→WK,lt_succ_self→WL,le_succ→WM,add_zero→WW,mod_eq_of_lt→W8,lt_or_gt_of_ne→W9,mul_le_mul_left→Waa,div_lt_of_lt_mul→Wad
open List renaming getElem?_eq_getElem→Wd,getElem?_eq_some_iff→Wf,replicate→Wh,range→Wj,getD→Wl,eq_nil_of_length_eq_zero→Wq,getElem?_replicate→Wu,getElem?_set→Ww,getElem?_map→Wx,getElem?_append_left→WB,getElem?_append_right→WC,mem_of_getElem?→WD,getElem?_take→WE,getElem?_drop→WF,append_assoc→WG,length_replicate→WI,length_append→WJ,mapM_cons→WN,getElem?_toArray→WR,getElem?_cons_succ→W3,getD_eq_getElem?_getD→W5,getElem?_of_mem→Wab,getElem?_append→Wac,size_toArray→Wae
open Array renaming getElem?_eq_getElem→Wg,range→Wt,getD_eq_getD_getElem?→WU,getElem?_toList→WX,all_eq_true_iff_forall_mem→WZ,mem_of_getElem?→W0,getElem?_eq_some_iff→W6,getElem?_setIfInBounds→W7
open Option.some renaming injEq→Wn
open Option renaming map_eq_some_iff→Wo,bind_eq_bind→WO,pure_def→WP,bind_eq_some_iff→WQ,getD_some→WV,bind_some→WY
open Bool renaming and_eq_true→WA,false_eq_true→WS
namespace Go.Ab
open Go.RowKit
structure Loc where
 block:Nat
 off:Nat
 cap:Nat
 sz:Nat
abbrev Inj:=Nat->Nat->Nat->Option Loc
def noI:Inj:=λ_ _ _=>none
inductive AV where
 |undef
 |int (k:IntKind) (n:Int)
 |bool (b:Bool)
 |str (s:ByteArray)
 |nilp
 |ptr (r q g i f:Nat)
 |iptr (n:Nat) (c:Nat->AV)
 |sl (sz n:Nat) (f:Nat->Nat->AV)
 |nilsl
 |cut
 |own (r q g off n:Nat)
 |fn (f:Fn) (caps:List AV)
 |nilfn
 |agg (cs:List AV)
 |tup (cs:List AV)
 |mp (r q:Nat)
 |nilmp
 |it (r:Nat)
 deriving Inhabited
inductive AObj where
 |row (sz:Nat) (els:List (List AV)) (g:Nat)
 |fam (sz:Nat) (ins:List (List (List AV)×Nat))
abbrev AH:=List (Nat×AObj)
def AH.look:AH->Nat->Option AObj
 |[],_=>none
 |(j,o)::t,r=>bif Wa j r then some o else AH.look t r
def AH.put:AH->Nat->AObj->AH
 |[],r,o=>[(r,o)]
 |(j,u)::t,r,o=>bif Wa j r then(r,o)::t else(j,u)::AH.put t r o
def AObj.part:AObj->Nat->Option AObj
 |.row d b g,0=>some (.row d b g)
 |.row _ _ _,_+1=>none
 |.fam _ _,0=>none
 |.fam d c,i+1=>(c[i]?).map λp=>.row d p.1 p.2
def AObj.upd:AObj->Nat->AObj->AObj
 |.fam d c,i+1,.row _ b g=>.fam d (c.set i (b,g))
 |_,_,o=>o
def AH.get(H:AH)(r q:Nat):Option AObj:=(H.look r).bind (·.part q)
def AH.set(H:AH)(r q:Nat)(o:AObj):AH :=
 match H.look r with
 |some u=>H.put r (u.upd q o)
 |none=>H.put r o
theorem zm{a b}(h:Wa a b=true):a=b:=Nat.eq_of_beq_eq_true h
theorem zbP(a):Wa a a=true:=Nat.beq_refl a
theorem zbc{a b}(h:a≠b):Wa a b=false:=by
 cases c:Wa a b
 .rfl
 .exact absurd (zm c) h
theorem AH.look_put(H:AH)(r:Nat)(o:AObj)(x:Nat):(H.put r o).look x=if x=r then some o else H.look x:=by
 induction H with
 |nil=>
  by_cases b:x=r
  .subst b;simp[AH.put,AH.look]
  .simp[AH.put,AH.look,zbc (Xf b),b]
 |cons p t ih=>
  obtain⟨j,u⟩:=p;by_cases c:j=r
  .subst c;by_cases b:x=j
   .subst b;simp[AH.put,AH.look]
   .simp[AH.put,AH.look,zbc (Xf b),b]
  .by_cases b:x=r
   .subst b;simp[AH.put,AH.look,zbc c,ih]
   .simp only[AH.put,zbc c,cond_false,AH.look,ih,if_neg b]
def zDk(H:AH)(r q c:Nat):Prop:=(∃b g,H.get r q=some (.row c b g))\/(H.look r=none/\q=0)
theorem AH.get_set{H}{r q sz}(h:zDk H r q sz)(els)(g x y):
  (H.set r q (.row sz els g)).get x y=if x=r/\y=q then some (.row sz els g)else H.get x y:=by
 unfold AH.get AH.set at *;rcases h with ⟨j,o,h⟩|⟨h,rfl⟩
 .cases c:H.look r with
  |none=>unfold AH.get at h;rw[c]at h;cases h
  |some u=>
   unfold AH.get at h;rw[c]at h;simp only[WY]at h;simp only[AH.look_put];by_cases b:x=r
   .subst b;rw[if_pos rfl,c];simp only[WY,true_and]
    cases u with
    |row sz1 els1 g1=>
     cases q with
     |zero=>
      simp only[AObj.upd]
      cases y with
      |zero=>rfl
      |succ y=>simp[AObj.part]
     |succ q=>simp[AObj.part]at h
    |fam sz1 ins=>
     cases q with
     |zero=>simp[AObj.part]at h
     |succ i=>
      simp only[AObj.part]at h;obtain⟨p,n,k⟩:=Wo.1 h;cases k;have m:=(Wf.1 n).1;simp only[AObj.upd]
      cases y with
      |zero=>simp[AObj.part]
      |succ y=>
       simp only[AObj.part,Ww,Nat.succ.injEq];by_cases d:y=i
       .subst d;simp[m]
       .simp[d,Xf d]
   .rw[if_neg b,if_neg (λe=>b e.1)]
 .rw[h];simp only[AH.look_put];by_cases b:x=r
  .subst b;rw[if_pos rfl,h]
   cases y with
   |zero=>simp[AObj.part]
   |succ y=>simp[AObj.part]
  .rw[if_neg b,if_neg (λe=>b e.1)]
theorem AH.look_set{H:AH}{r q:Nat}{o b:AObj}{x:Nat}(h:(H.set r q o).look x=some b):x=r\/H.look x=some b:=by
 unfold AH.set at h;split at h
 .rw[AH.look_put]at h;split at h
  .exact .inl ‹_›
  .exact .inr h
 .rw[AH.look_put]at h;split at h
  .exact .inl ‹_›
  .exact .inr h
def big:Nat:=9223372036854775807
def InR(k:IntKind)(n:Int):Prop:=k.min<=n/\n<=k.max
inductive VR(w:World)(L:Nat->Prop):Inj->Value->AV->Prop where
 |undef (ι v):VR w L ι v .undef
 |int (ι k n) (h:InR k n):VR w L ι (.int k n) (.int k n)
 |bool (ι b):VR w L ι (.bool b) (.bool b)
 |str (ι s) (h:s.size<=big):VR w L ι (.string s) (.str s)
 |nilp (ι):VR w L ι (.pointer none) .nilp
 |ptr (ι:Inj) (r q g i f l) (h:ι r q g=some l) (hm:l.cap<=maxLen):VR w L ι (.pointer (some ⟨l.block,l.off+i*l.sz+f,none⟩)) (.ptr r q g i f)
 |iptr (ι) (a:Addr) (n:Nat) (c:Nat->AV) (V:Nat->Value) (hc:∀j,j<n->w.cell? (a.add j)=some (V j)/\(V j).oneCell'=true)
   (hL:0<n->¬L a.block) (hv:∀j,j<n->VR w L noI (V j) (c j)):VR w L ι (.pointer (some a)) (.iptr n c)
 |sl (ι) (a:Addr) (sz n cap:Nat) (f:Nat->Nat->AV) (V:Nat->Nat->Value) (hn:n<=cap) (hb:n<=big)
   (hc:∀i j,i<n->j<sz->w.cell? ((a.add (i*sz)).add j)=some (V i j)/\(V i j).oneCell'=true)
   (hL:0<n*sz->¬L a.block) (hv:∀i j,i<n->j<sz->VR w L noI (V i j) (f i j)):VR w L ι (.slice (some a) n cap) (.sl sz n f)
 |sl0 (ι sz f):VR w L ι (.slice none 0 0) (.sl sz 0 f)
 |nilsl (ι):VR w L ι (.slice none 0 0) .nilsl
 |cut (ι a):VR w L ι (.slice a 0 0) .cut
 |own (ι:Inj) (r q g off n:Nat) (a:Option Addr) (c:Nat) (l:Loc) (h:ι r q g=some l) (hm:l.cap<=maxLen) (hn:n<=c) (hc:off+c<=l.cap)
   (ha:0<c->a=some ⟨l.block,l.off+off*l.sz,none⟩):VR w L ι (.slice a n c) (.own r q g off n)
 |mp (ι:Inj) (r q l) (h:ι r q 0=some l) (hm:l.cap=maxLen+1):VR w L ι (.map (some l.block)) (.mp r q)
 |nilmp (ι):VR w L ι (.map none) .nilmp
 |it (ι:Inj) (r l) (h:ι r 0 0=some l) (hm:l.cap=maxLen+2\/l.cap=maxLen+3):VR w L ι (.pointer (some ⟨l.block,0,none⟩)) (.it r)
 |fn (ι) (f:Fn) (cs:Array Value) (caps:List AV) (hs:cs.size=caps.length) (hv:∀(i:Nat)(v:Value)(a:AV),cs[i]?=some v->caps[i]?=some a->VR w L ι v a):VR w L ι (.func f #[] cs) (.fn f caps)
 |nilfn (ι):VR w L ι .nilFunc .nilfn
 |agg (ι) (cs:Array Value) (asv:List AV) (hs:cs.size=asv.length) (h1:∀(i:Nat)(v:Value),cs[i]?=some v->v.oneCell'=true)
   (hv:∀(i:Nat)(v:Value)(a:AV),cs[i]?=some v->asv[i]?=some a->VR w L ι v a):VR w L ι (.agg cs) (.agg asv)
 |tup (ι) (cs:Array Value) (asv:List AV) (hs:cs.size=asv.length) (hv:∀(i:Nat)(v:Value)(a:AV),cs[i]?=some v->asv[i]?=some a->VR w L ι v a):VR w L ι (.tuple cs) (.tup asv)
theorem zcP(a:Addr)(n):(a.add n).block=a.block:=by unfold Xg;split<;>rfl
theorem zll{w:World}{a:Addr}{v:Value}(h:w.cell? a=some v):a.block<w.heap.size:=World.block_lt_of_cell? w a h
theorem zjG{w b:World}{a:Addr}(h:b.heap[a.block]?=w.heap[a.block]?):b.cell? a=w.cell? a:=World.cell?_of_block h
theorem zuJ{w b:World}{a:Addr}(h:b.heap[a.block]?=w.heap[a.block]?):b.frozen? a=w.frozen? a:=World.frozen?_of_block h
theorem VR.mono{w w'}{L L'}(M:∀b,b<w.heap.size->¬L b->w'.heap[b]?=w.heap[b]? /\ ¬L' b){ι}{v}{a}(h:VR w L ι v a):∀{d:Inj},(∀r q g l,ι r q g=some l->d r q g=some l)->VR w' L' d v a:=by
 induction h with
 |undef ι v=>intro d _;exact .undef _ _
 |int ι k n h=>intro d _;exact .int _ _ _ h
 |bool ι b=>intro d _;exact .bool _ _
 |str ι s h=>intro d _;exact .str _ _ h
 |nilp ι=>intro d _;exact .nilp _
 |ptr ι r q g i f l h z=>intro d m;exact .ptr _ _ _ _ _ _ _ (m _ _ _ _ h) z
 |mp ι r q l h z=>intro d m;exact .mp _ _ _ _ (m _ _ _ _ h) z
 |nilmp ι=>intro d _;exact .nilmp _
 |it ι r l h z=>intro d m;exact .it _ _ _ (m _ _ _ _ h) z
 |iptr ι a n c V x hL F p=>
  intro d _;have C:0<n->w'.heap[a.block]?=w.heap[a.block]? /\ ¬L' a.block:=λt=>by have:=zll (x 0 t).1;rw[zcP]at this;exact M _ this (hL t)
  refine .iptr _ a n c V (λj y=>?_) (λt=>(C t).2) (λj y=>p j y (λ_ _ _ _ h=>by cases h));have e:w'.cell? (a.add j)=w.cell? (a.add j):=zjG (by rw[zcP];exact(C (by omega)).1);rw[e];exact x j y
 |sl ι a A n cap f V t hbig x hL F p=>
  intro d _
  have C:0<n*A->w'.heap[a.block]?=w.heap[a.block]? /\ ¬L' a.block:=λB=>by
   have o:0<n:=Nat.pos_of_mul_pos_right B |> λ_=>by
    rcases Wm n with h|h
    .subst h;simp at B
    .exact h
   have u:0<A:=by
    rcases Wm A with h|h
    .subst h;simp at B
    .exact h
   have:=zll (x 0 0 o u).1;rw[zcP,zcP]at this;exact M _ this (hL B)
  refine .sl _ a A n cap f V t hbig (λi j I y=>?_) (λB=>(C B).2) (λi j I y=>p i j I y (λ_ _ _ _ h=>by cases h));have e:w'.cell? ((a.add (i*A)).add j)=w.cell? ((a.add (i*A)).add j):=zjG (by rw[zcP,zcP];exact(C (Wk (by omega) (by omega))).1);rw[e];exact x i j I y
 |sl0 ι A f=>intro d _;exact .sl0 _ _ _
 |nilsl ι=>intro d _;exact .nilsl _
 |cut ι a=>intro d _;exact .cut _ _
 |own ι r q g off n a c l h z t x N=>intro d m;exact .own _ _ _ _ _ _ _ _ l (m _ _ _ _ h) z t x N
 |fn ι f K J D F p=>intro d m;exact .fn _ _ _ _ D (λi v a o u=>p i v a o u m)
 |nilfn ι=>intro d _;exact .nilfn _
 |agg ι K H D o F p=>intro d m;exact .agg _ _ _ D o (λi v a o u=>p i v a o u m)
 |tup ι K H D F p=>intro d m;exact .tup _ _ _ D (λi v a o u=>p i v a o u m)
theorem VR.anti{w}{L L'}{ι}{v}{a}(h:VR w L ι v a)(d:∀b,L' b->L b):VR w L' ι v a :=
 h.mono (λb _ e=>⟨rfl,λc=>e (d b c)⟩) (λ_ _ _ _ h=>h)
inductive AV.Below(N:Nat):AV->Prop where
 |undef:AV.Below N .undef
 |int (k n):AV.Below N (.int k n)
 |bool (b):AV.Below N (.bool b)
 |str (s):AV.Below N (.str s)
 |nilp:AV.Below N .nilp
 |ptr (r q g i f) (h:r<N):AV.Below N (.ptr r q g i f)
 |iptr (n c):AV.Below N (.iptr n c)
 |sl (sz n f):AV.Below N (.sl sz n f)
 |nilsl:AV.Below N .nilsl
 |cut:AV.Below N .cut
 |own (r q g off n) (h:r<N):AV.Below N (.own r q g off n)
 |fn (f caps) (h:∀a∈caps,AV.Below N a):AV.Below N (.fn f caps)
 |nilfn:AV.Below N .nilfn
 |agg (asv) (h:∀a∈asv,AV.Below N a):AV.Below N (.agg asv)
 |tup (asv) (h:∀a∈asv,AV.Below N a):AV.Below N (.tup asv)
 |mp (r q) (h:r<N):AV.Below N (.mp r q)
 |nilmp:AV.Below N .nilmp
 |it (r) (h:r<N):AV.Below N (.it r)
def Inj.upto(ι:Inj)(N:Nat):Inj:=λr q g=>if r<N then ι r q g else none
theorem VR.upto{w}{L}{N}{ι}{v}{a}(h:VR w L ι v a):AV.Below N a->VR w L (ι.upto N) v a:=by
 induction h with
 |undef ι v=>intro _;exact .undef _ _
 |int ι k n h=>intro _;exact .int _ _ _ h
 |bool ι b=>intro _;exact .bool _ _
 |str ι s h=>intro _;exact .str _ _ h
 |nilp ι=>intro _;exact .nilp _
 |ptr ι r q g i f l h o=>intro d;cases d with|ptr _ _ _ _ _ e=>exact .ptr _ _ _ _ _ _ _ (by simp[Inj.upto,e,h]) o
 |mp ι r q l h o=>intro d;cases d with|mp _ _ e=>exact .mp _ _ _ _ (by simp[Inj.upto,e,h]) o
 |nilmp ι=>intro _;exact .nilmp _
 |it ι r l h o=>intro d;cases d with|it _ e=>exact .it _ _ _ (by simp[Inj.upto,e,h]) o
 |iptr ι a n c V x A t p=>intro _;exact .iptr _ a n c V x A t
 |sl ι a F n cap f V B u x A t p=>intro _;exact .sl _ a F n cap f V B u x A t
 |sl0 ι F f=>intro _;exact .sl0 _ _ _
 |nilsl ι=>intro _;exact .nilsl _
 |cut ι a=>intro _;exact .cut _ _
 |own ι r q g off n a c l h o B x H=>intro d;cases d with|own _ _ _ _ _ e=>exact .own _ _ _ _ _ _ _ _ l (by simp[Inj.upto,e,h]) o B x H
 |fn ι f D C y t p=>intro d;cases d with|fn _ _ e=>exact .fn _ _ _ _ y (λi v a m j=>p i v a m j (e a (WD j)))
 |nilfn ι=>intro _;exact .nilfn _
 |agg ι D z y m t p=>intro d;cases d with|agg _ e=>exact .agg _ _ _ y m (λi v a m j=>p i v a m j (e a (WD j)))
 |tup ι D z y t p=>intro d;cases d with|tup _ e=>exact .tup _ _ _ y (λi v a m j=>p i v a m j (e a (WD j)))
def AV.ren(ρ:Nat->Nat):AV->AV
 |.ptr r q g i f=>.ptr (ρ r) q g i f
 |.own r q g off n=>.own (ρ r) q g off n
 |.fn f e=>.fn f (e.map (AV.ren ρ))
 |.agg d=>.agg (d.map (AV.ren ρ))
 |.tup d=>.tup (d.map (AV.ren ρ))
 |.mp r q=>.mp (ρ r) q
 |.nilmp=>.nilmp
 |.it r=>.it (ρ r)
 |.undef=>.undef
 |.int k n=>.int k n
 |.bool b=>.bool b
 |.str s=>.str s
 |.nilp=>.nilp
 |.iptr n c=>.iptr n c
 |.sl h n f=>.sl h n f
 |.nilsl=>.nilsl
 |.cut=>.cut
 |.nilfn=>.nilfn
theorem VR.ren{w}{L}{ρ}{ι'}{ι}{v}{a}(h:VR w L ι v a):(∀r q g l,ι r q g=some l->ι' (ρ r) q g=some l)->VR w L ι' v (a.ren ρ):=by
 induction h with
 |undef ι v=>intro _;simp only[AV.ren];exact .undef _ _
 |int ι k n h=>intro _;simp only[AV.ren];exact .int _ _ _ h
 |bool ι b=>intro _;simp only[AV.ren];exact .bool _ _
 |str ι s h=>intro _;simp only[AV.ren];exact .str _ _ h
 |nilp ι=>intro _;simp only[AV.ren];exact .nilp _
 |ptr ι r q g i f l h m=>intro d;simp only[AV.ren];exact .ptr _ _ _ _ _ _ _ (d _ _ _ _ h) m
 |mp ι r q l h m=>intro d;simp only[AV.ren];exact .mp _ _ _ _ (d _ _ _ _ h) m
 |nilmp ι=>intro _;simp only[AV.ren];exact .nilmp _
 |it ι r l h m=>intro d;simp only[AV.ren];exact .it _ _ _ (d _ _ _ _ h) m
 |iptr ι a n c V x y p o=>intro _;simp only[AV.ren];exact .iptr _ a n c V x y p
 |sl ι a A n cap f V z u x y p o=>intro _;simp only[AV.ren];exact .sl _ a A n cap f V z u x y p
 |sl0 ι A f=>intro _;simp only[AV.ren];exact .sl0 _ _ _
 |nilsl ι=>intro _;simp only[AV.ren];exact .nilsl _
 |cut ι a=>intro _;simp only[AV.ren];exact .cut _ _
 |own ι r q g off n a c l h m z x B=>intro d;simp only[AV.ren];exact .own _ _ _ _ _ _ _ _ l (d _ _ _ _ h) m z x B
 |fn ι f cs caps hs p o=>intro d;simp only[AV.ren];refine .fn _ _ _ _ (by simpa using hs) (λi v a j e=>?_);rw[Wx]at e;obtain⟨a0,t,rfl⟩:=Wo.1 e;exact o i v a0 j t d
 |nilfn ι=>intro _;simp only[AV.ren];exact .nilfn _
 |agg ι cs asv hs j p o=>intro d;simp only[AV.ren];refine .agg _ _ _ (by simpa using hs) j (λi v a j e=>?_);rw[Wx]at e;obtain⟨a0,t,rfl⟩:=Wo.1 e;exact o i v a0 j t d
 |tup ι cs asv hs p o=>intro d;simp only[AV.ren];refine .tup _ _ _ (by simpa using hs) (λi v a j e=>?_);rw[Wx]at e;obtain⟨a0,t,rfl⟩:=Wo.1 e;exact o i v a0 j t d
def live(ι:Inj)(H:AH)(b:Nat):Prop:=∃r q d c g l,H.get r q=some (.row d c g)/\ι r q g=some l/\0<l.cap*l.sz/\l.block=b
def zdL:Obj->Nat->Nat->Option Value
 |.map _ clock,0,0=>some (.int .i64 clock)
 |.map _ _,0,_+1=>some (.bool false)
 |.map d _,i+1,0=>(d[i]?).map (·.key)
 |.map d _,i+1,1=>(d[i]?).map (·.val)
 |.map d _,i+1,2=>(d[i]?).map λe=>.int .i64 e.born
 |.mapIter m _ _ _,0,0=>some (.map m)
 |.mapIter _ c _ _,1,0=>some (.int .i64 c)
 |.mapIter _ _ _ b,2,0=>some (.int .i64 b)
 |.mapIter _ _ seen _,i+3,0=>(seen[i]?).map λn=>.int .i64 n
 |.cells g _ _,0,0=>g[0]?
 |_,_,_=>none
def vlen:Obj->Nat
 |.map b _=>b.size+1
 |.mapIter _ _ seen _=>seen.size+3
 |.cells ..=>1
 |_=>0
def zui:Obj->Nat
 |.map _ _=>1
 |.mapIter ..=>2
 |.cells ..=>3
 |_=>0
def zd0(w:World)(l:Loc)(b i j:Nat):Option Value :=
 if l.cap<=maxLen then w.cell? ⟨l.block,l.off+i*b+j,none⟩else(w.heap[l.block]?).bind λo=>zdL o i j
theorem zs3{w w'}{l}{sz i j}(h:w'.heap[l.block]?=w.heap[l.block]?):zd0 w' l sz i j=zd0 w l sz i j:=by
 unfold zd0;rw[h];split
 .exact zjG h
 .rfl
def FzOk(w:World)(b:Nat):Prop:=∀c e d g,w.heap[b]?=some (.cells c e (d,g))->d=g\/c.size<=d
theorem FzOk.of_heap{w w'}{b}(h:FzOk w b)(d:w'.heap[b]?=w.heap[b]?):FzOk w' b:=λc e k j g=>h c e k j (by rw[<-d];exact g)
theorem FzOk.new{w:World}{b:Array Value}{e:TypeId}:FzOk (w.alloc (.cells b e)) w.heap.size:=by intro c d j g h;have:(w.alloc (.cells b e)).heap=w.heap.push (.cells b e):=rfl;rw[this]at h;simp at h;obtain⟨_,_,rfl,rfl⟩:=h;exact .inl rfl
theorem FzOk.setCell{w}{b}(h:FzOk w b)(a:Addr)(v):FzOk (w.setCell a v) b:=by
 intro c e s q d;unfold World.setCell at d;simp only[Array.getElem?_modify]at d;split at d
 .obtain⟨o,p,g⟩:=Wo.1 d;cases o<;>simp at g
  rename_i c0 m n;obtain⟨k,j⟩:=n;simp only[Obj.cells.injEq,Prod.mk.injEq]at g;obtain⟨rfl,rfl,rfl,rfl⟩:=g;have:=h c0 m k j p;split
  .exact this
  .simpa using this
 .exact h c e s q d
theorem FzOk.setCells{b b'}:∀{vs:List Value}{o:Nat}{w:World},FzOk w b->FzOk (w.setCells b' o vs) b
 |[],_,_,h=>h
 |v::r,o,w,h=>by rw[Xw];exact FzOk.setCells (h.setCell _ _)
structure Plain(w:World)(sz:Nat)(els:List (List AV))(l:Loc):Prop where
 len:els.length<=l.cap
 there:∀k,k<l.cap*sz->(w.cell? ⟨l.block,l.off+k,none⟩).isSome=true/\w.frozen? ⟨l.block,l.off+k,none⟩=false
 fz:0<l.cap*sz->FzOk w l.block
def Spec(w:World)(b:List (List AV))(l:Loc):Prop:=0<l.sz/\∃o,w.heap[l.block]?=some o/\vlen o=b.length/\zui o=l.cap-maxLen
structure RowOk(w:World)(Lt:Nat->Prop)(ι:Inj)(sz:Nat)(els:List (List AV))(l:Loc):Prop where
 hsz:l.sz=sz
 wide:∀(i:Nat)(c:List AV),els[i]?=some c->c.length=sz
 plain:l.cap<=maxLen->Plain w sz els l
 spec:¬l.cap<=maxLen->Spec w els l
 hold:∀(i:Nat)(c:List AV)(j:Nat)(a:AV),els[i]?=some c->c[j]?=some a->∃v,zd0 w l sz i j=some v/\(l.cap<=maxLen->v.oneCell'=true)/\VR w Lt ι v a
section
variable {w w':World}{M M':Nat->Prop}{ι ι':Inj}{sz:Nat}{els els':List (List AV)}{l:Loc}
theorem RowOk.holds(ok:RowOk w M ι sz els l)(d:l.cap<=maxLen)(i)(c)(j)(a)(h:els[i]?=some c)(k:c[j]?=some a):
  ∃v,w.cell? ⟨l.block,l.off+i*sz+j,none⟩=some v/\v.oneCell'=true/\VR w M ι v a:=by
 obtain⟨v,b,e,g⟩:=ok.hold i c j a h k;unfold zd0 at b;rw[if_pos d]at b;exact⟨v,b,e d,g⟩
theorem RowOk.mk'(e:l.sz=sz)(len:els.length<=l.cap)(g:l.cap<=maxLen)(b:∀k,k<l.cap*sz->(w.cell? ⟨l.block,l.off+k,none⟩).isSome=true/\w.frozen? ⟨l.block,l.off+k,none⟩=false)(m:0<l.cap*sz->FzOk w l.block)(d:∀(i:Nat)(c:List AV),els[i]?=some c->c.length=sz)(holds:∀(i:Nat)(c:List AV)(j:Nat)(a:AV),els[i]?=some c->c[j]?=some a->∃v,w.cell? ⟨l.block,l.off+i*sz+j,none⟩=some v/\v.oneCell'=true/\VR w M ι v a):RowOk w M ι sz els l:=by
 refine⟨e,d,λ_=>⟨len,b,m⟩,λh=>absurd g h,λi c j a q s=>?_⟩;obtain⟨v,n,o,p⟩:=holds i c j a q s;exact⟨v,by unfold zd0;rw[if_pos g];exact n,λ_=>o,p⟩
theorem RowOk.blk_lt(ok:RowOk w M ι sz els l)(h:0<l.cap*l.sz):l.block<w.heap.size:=by
 by_cases d:l.cap<=maxLen
 .obtain⟨v,e⟩:=Option.isSome_iff_exists.1 ((ok.plain d).there 0 (by rw[<-ok.hsz];exact h)).1;exact zll e
 .obtain⟨_,o,c,_⟩:=ok.spec d;rcases Nat.lt_or_ge l.block w.heap.size with b|b
  .exact b
  .rw[Array.getElem?_eq_none b]at c;cases c
theorem RowOk.view(ok:RowOk w M ι sz els l)(p:0<l.cap*l.sz->w'.heap[l.block]?=w.heap[l.block]?)(x:els'.length=els.length)(z:∀(i:Nat)(d:List AV),els'[i]?=some d->∃c,els[i]?=some c/\d.length=c.length/\∀(j:Nat)(a n:AV),c[j]?=some a->d[j]?=some n->∀v,VR w M ι v a->VR w' M' ι' v n):RowOk w' M' ι' sz els' l:=by
 refine⟨ok.hsz,λi d s=>?_,λb=>⟨by rw[x];exact(ok.plain b).len,λk H=>?_,λy=>((ok.plain b).fz y).of_heap (p (by rw[ok.hsz];exact y))⟩,λb=>?_,λi d j n s u=>?_⟩
 .obtain⟨c,e,g,_⟩:=z i d s;rw[g];exact ok.wide i c e
 .have h:=p (by rw[ok.hsz];omega);have A:w'.cell? ⟨l.block,l.off+k,none⟩=w.cell? ⟨l.block,l.off+k,none⟩:=zjG h;have B:w'.frozen? ⟨l.block,l.off+k,none⟩=w.frozen? ⟨l.block,l.off+k,none⟩:=zuJ h;rw[A,B];exact(ok.plain b).there k H
 .obtain⟨t,o,e,g,q⟩:=ok.spec b;exact⟨t,o,by rw[p (Wk (by omega) t)];exact e,by rw[g,x],q⟩
 .obtain⟨c,e,g,q⟩:=z i d s;have m:j<c.length:=by rw[<-g];exact(Wf.1 u).1
  obtain⟨v,C,D,F⟩:=ok.hold i c j _ e (Wd m);refine⟨v,?_,D,q j _ n (Wd m) u v F⟩;rw[<-C];refine zs3 (p ?_);by_cases b:l.cap<=maxLen
  .have I:=(ok.plain b).len;have J:=(Wf.1 e).1;have K:=ok.wide i c e;exact Wk (by omega) (by rw[ok.hsz];omega)
  .exact Wk (by omega) (ok.spec b).1
theorem RowOk.trans(ok:RowOk w M ι sz els l)(g:0<l.cap*l.sz->w'.heap[l.block]?=w.heap[l.block]?)(k:∀v a,VR w M ι v a->VR w' M' ι' v a):RowOk w' M' ι' sz els l :=
 ok.view g rfl (λi c h=>⟨c,h,rfl,λj a m d b v e=>by rw[d]at b;cases b;exact k v a e⟩)
end
abbrev Lt(L:Nat->Prop)(ι:Inj)(H:AH):Nat->Prop:=λb=>L b\/live ι H b
structure RelH(w:World)(L:Nat->Prop)(ι:Inj)(H:AH)(nx:Nat):Prop where
 row:∀r q sz els g,H.get r q=some (.row sz els g)->∃l,ι r q g=some l/\RowOk w (Lt L ι H) ι sz els l
 apart:∀r1 q1 r2 q2 s1 e1 g1 l1 s2 e2 g2 l2,H.get r1 q1=some (.row s1 e1 g1)->H.get r2 q2=some (.row s2 e2 g2)->ι r1 q1 g1=some l1->ι r2 q2 g2=some l2 ->
  0<l1.cap*l1.sz->0<l2.cap*l2.sz->l1.block=l2.block->r1=r2/\q1=q2
 out:∀b,live ι H b->¬L b
 idx:∀r q g l,ι r q g=some l->r<nx
 dom:∀r o,H.look r=some o->r<nx
 gen:∀r q sz els g,H.get r q=some (.row sz els g)->∀g2 l,ι r q g2=some l->g2<=g
 Lsz:∀b,L b->b<w.heap.size
theorem RelH.live_lt{w}{L}{ι}{H}{nx}(h:RelH w L ι H nx){b}(m:live ι H b):b<w.heap.size:=by obtain⟨r,q,n,c,g,l,e,j,k,rfl⟩:=m;obtain⟨o,d,ok⟩:=h.row r q n c g e;rw[j]at d;cases d;exact ok.blk_lt k
structure Ext(M:Nat->Prop)(w w':World):Prop where
 os:w'.os=w.os
 tape:w'.tape=w.tape
 output:w'.output=w.output
 size:w.heap.size<=w'.heap.size
 block:∀b,b<w.heap.size->¬M b->w'.heap[b]?=w.heap[b]?
theorem Ext.refl(M)(w):Ext M w w:=⟨rfl,rfl,rfl,Wc _,λ_ _ _=>rfl⟩
structure Step(w:World)(L:Nat->Prop)(ι:Inj)(H:AH)(nx:Nat)(w':World)(ι':Inj)(H':AH)(nx':Nat):Prop where
 ext:Ext (live ι H) w w'
 inj:∀r q g l,ι r q g=some l->ι' r q g=some l
 rel:RelH w' L ι' H' nx'
 lv:∀b,live ι' H' b->live ι H b\/w.heap.size<=b
theorem Step.refl{w}{L}{ι}{H}{nx}(h:RelH w L ι H nx):Step w L ι H nx w ι H nx :=
 ⟨.refl _ _,λ_ _ _ _ h=>h,h,λ_ h=>.inl h⟩
theorem Step.trans{w}{L}{ι}{H}{nx}{w1}{ι1}{H1}{nx1}{w2}{ι2}{H2}{nx2}(a:Step w L ι H nx w1 ι1 H1 nx1)(b:Step w1 L ι1 H1 nx1 w2 ι2 H2 nx2):Step w L ι H nx w2 ι2 H2 nx2:=by
 refine⟨⟨b.ext.os.trans a.ext.os,b.ext.tape.trans a.ext.tape,b.ext.output.trans a.ext.output,WK a.ext.size b.ext.size,λx c d=>?_⟩,λr q g l h=>b.inj _ _ _ _ (a.inj _ _ _ _ h),b.rel,λx c=>?_⟩
 .rw[b.ext.block x (Wy c a.ext.size) (λh=>by rcases a.lv x h with h|h;exact d h;omega)];exact a.ext.block x c d
 .rcases b.lv x c with h|h
  .exact a.lv x h
  .exact .inr (WK a.ext.size h)
theorem Step.vr{w:World}{L:Nat->Prop}{ι:Inj}{H:AH}{nx:Nat}{k:World}{d:Inj}{j:AH}{g:Nat}(s:Step w L ι H nx k d j g){v:Value}{a:AV}(h:VR w (Lt L ι H) ι v a):VR k (Lt L d j) d v a:=by
 refine h.mono (λb m e=>⟨s.ext.block b m (λn=>e (.inr n)),λc=>?_⟩) s.inj;rcases c with c|c
 .exact e (.inl c)
 .rcases s.lv b c with c|c
  .exact e (.inr c)
  .omega
def Inj.put(ι:Inj)(r q g:Nat)(l:Loc):Inj:=λd c b=>if d=r/\c=q/\b=g then some l else ι d c b
theorem Inj.put_same(ι:Inj)(r q g:Nat)(l:Loc):ι.put r q g l r q g=some l:=by simp[Inj.put]
theorem Inj.put_other{ι:Inj}{r q g:Nat}{l:Loc}{c b d:Nat}(h:¬(c=r/\b=q)):ι.put r q g l c b d=ι c b d:=by unfold Inj.put;rw[if_neg (λe=>h ⟨e.1,e.2.1⟩)]
def zCc(ι:Inj)(H:AH)(r q:Nat)(b:Nat):Prop:=∃d c g l,H.get r q=some (.row d c g)/\ι r q g=some l/\0<l.cap*l.sz/\l.block=b
theorem zCc.live{ι:Inj}{H:AH}{r q b:Nat}(h:zCc ι H r q b):live ι H b:=let ⟨m,c,g,l,d,e,j,k⟩:=h;⟨r,q,m,c,g,l,d,e,j,k⟩
structure Chg(w:World)(ι:Inj)(H:AH)(r q g:Nat)(l:Loc)(w':World):Prop where
 os:w'.os=w.os
 tape:w'.tape=w.tape
 output:w'.output=w.output
 size:w.heap.size<=w'.heap.size
 blk:∀b,b<w.heap.size->¬zCc ι H r q b->w'.heap[b]?=w.heap[b]?
 new:0<l.cap*l.sz->zCc ι H r q l.block\/w.heap.size<=l.block
 same:∀l0,ι r q g=some l0->l0=l
 top:∀g2 l2,ι r q g2=some l2->g2<=g
section
variable {w:World}{L:Nat->Prop}{ι:Inj}{H:AH}{nx:Nat}{r q g:Nat}{l:Loc}{w':World}{sz:Nat}{els:List (List AV)}
theorem Chg.inj(c:Chg w ι H r q g l w'):∀j e d b,ι j e d=some b->ι.put r q g l j e d=some b:=by
 intro j e d b h;unfold Inj.put;split
 .rename_i k;obtain⟨rfl,rfl,rfl⟩:=k;rw[c.same b h]
 .exact h
theorem Chg.lv(c:Chg w ι H r q g l w')(x:zDk H r q sz)(h:RelH w L ι H nx):∀b,live (ι.put r q g l) (H.set r q (.row sz els g)) b->live ι H b\/w.heap.size<=b:=by
 rintro b ⟨v,u,o,e,p,t,j,k,s,rfl⟩;rw[AH.get_set x]at j;split at j
 .rename_i d;obtain⟨rfl,rfl⟩:=d;cases j;rw[Inj.put_same]at k;cases k;rcases c.new s with n|n
  .exact .inl n.live
  .exact .inr n
 .rename_i d;have m:ι v u p=some t:=by rw[<-k,Inj.put_other d]
  exact .inl ⟨v,u,o,e,p,t,j,m,s,rfl⟩
theorem Chg.vr(c:Chg w ι H r q g l w')(n:zDk H r q sz)(h:RelH w L ι H nx){v}{a}(m:VR w (Lt L ι H) ι v a):
  VR w' (Lt L (ι.put r q g l) (H.set r q (.row sz els g))) (ι.put r q g l) v a:=by
 refine m.mono (λb j e=>⟨c.blk b j (λk=>e (.inr k.live)),λd=>?_⟩) c.inj;rcases d with d|d
 .exact e (.inl d)
 .rcases c.lv n h b d with d|d
  .exact e (.inr d)
  .omega
theorem Chg.step(c:Chg w ι H r q g l w')(A:zDk H r q sz)(h:RelH w L ι H nx){nx'}(hr:r<nx')(D:nx<=nx')(ok:RowOk w' (Lt L (ι.put r q g l) (H.set r q (.row sz els g))) (ι.put r q g l) sz els l) :
  Step w L ι H nx w' (ι.put r q g l) (H.set r q (.row sz els g)) nx':=by
 refine⟨⟨c.os,c.tape,c.output,c.size,λb y hn=>c.blk b y (λhl=>hn hl.live)⟩,c.inj,?_,c.lv A h⟩;constructor
 .intro s t x p u d;rw[AH.get_set A]at d;split at d
  .rename_i j;obtain⟨rfl,rfl⟩:=j;cases d;exact⟨l,Inj.put_same _ _ _ _ _,ok⟩
  .rename_i j;obtain⟨n,k,I⟩:=h.row s t x p u d
   have F:∀{b:Nat},n.block=b->0<n.cap*n.sz->¬zCc ι H r q b:=λy O ⟨s0,T,U,Z,J,K,a3,a4⟩=>
    j (h.apart s t r q x p u n s0 T U Z d J k K O a3 (y.trans a4.symm))
   exact⟨n,by rw[Inj.put_other j];exact k,I.trans (λO=>c.blk n.block (I.blk_lt O) (F rfl O)) (λv a hv=>c.vr A h hv)⟩
 .intro r1 q1 R Q s1 e1 g1 l1 s2 e2 N P d k C z V W X
  have key:∀s t S M u n,¬(s=r/\t=q)->H.get s t=some (.row S M u)->ι s t u=some n->0<n.cap*n.sz->0<l.cap*l.sz->n.block=l.block->False:=by
   intro s t S M u n Y J K a3 a4 a5;rcases c.new a4 with ⟨s0,T,U,Z,b1,b2,b3,b4⟩|hn
   .exact Y (h.apart s t r q S M u n s0 T U Z J b1 K b2 a3 b3 (a5.trans b4.symm))
   .have:=h.live_lt ⟨s,t,S,M,u,n,J,K,a3,rfl⟩;omega
  rw[AH.get_set A]at d k;by_cases m:r1=r/\q1=q
  .by_cases e:R=r/\Q=q
   .exact⟨m.1.trans e.1.symm,m.2.trans e.2.symm⟩
   .rw[if_pos m]at d;cases d;rw[if_neg e]at k;obtain⟨rfl,rfl⟩:=m;rw[Inj.put_same]at C;cases C;rw[Inj.put_other e]at z;exact(key R Q s2 e2 N P e k z W V X.symm).elim
  .rw[if_neg m]at d;rw[Inj.put_other m]at C;by_cases e:R=r/\Q=q
   .rw[if_pos e]at k;cases k;obtain⟨rfl,rfl⟩:=e;rw[Inj.put_same]at z;cases z;exact(key r1 q1 s1 e1 g1 l1 m d C V W X).elim
   .rw[if_neg e]at k;rw[Inj.put_other e]at z;exact h.apart r1 q1 R Q s1 e1 g1 l1 s2 e2 N P d k C z V W X
 .intro b y hL;rcases c.lv A h b y with B|B
  .exact h.out b B hL
  .have:=h.Lsz b hL;omega
 .intro s t u n d;unfold Inj.put at d;split at d
  .rename_i B;rw[B.1];exact hr
  .exact Wy (h.idx _ _ _ _ d) D
 .intro s o d;rcases AH.look_set d with rfl|d
  .exact hr
  .exact Wy (h.dom _ _ d) D
 .intro s t x p u d N P k;rw[AH.get_set A]at d;split at d
  .rename_i j;obtain⟨rfl,rfl⟩:=j;cases d;unfold Inj.put at k;split at k
   .rename_i B;omega
   .exact c.top _ _ k
  .rename_i j;rw[Inj.put_other j]at k;exact h.gen s t x p u d N P k
 .intro b y;exact Wy (h.Lsz b y) c.size
theorem RelH.free(h:RelH w L ι H nx):H.look nx=none:=by
 cases b:H.look nx with
 |none=>rfl
 |some o=>exact absurd (h.dom _ _ b) (Wz _)
theorem RelH.sok(h:RelH w L ι H nx)(sz):zDk H nx 0 sz:=.inr ⟨h.free,rfl⟩
theorem RelH.freshI(h:RelH w L ι H nx)(q g):ι nx q g=none:=by
 cases b:ι nx q g with
 |none=>rfl
 |some l=>exact absurd (h.idx _ _ _ _ b) (Wz _)
theorem Step.alloc(h:RelH w L ι H nx)(cur)(e)(sz)(els)(cap)(m:els.length<=cap)(A:cap<=maxLen)(d:cur.size=cap*sz)(C:∀(i:Nat)(c:List AV),els[i]?=some c->c.length=sz)(B:∀(i:Nat)(c:List AV)(j:Nat)(a:AV),els[i]?=some c->c[j]?=some a->∃v,cur[i*sz+j]?=some v/\v.oneCell'=true/\VR w (Lt L ι H) ι v a) :
  Step w L ι H nx (w.alloc (.cells cur e)) (ι.put nx 0 0 ⟨w.heap.size,0,cap,sz⟩) (H.set nx 0 (.row sz els 0)) (nx+1):=by
 have c:Chg w ι H nx 0 0 ⟨w.heap.size,0,cap,sz⟩ (w.alloc (.cells cur e)) :=
  ⟨rfl,rfl,rfl,by simp,λb u _=>Xp w _ b u,λ_=>.inr (Wc _),λF o=>(by rw[h.freshI]at o;cases o),λD I n=>(by rw[h.freshI]at n;cases n)⟩
 refine c.step (h.sok sz) h (WL _) (WM _) (.mk' rfl m A (λk z=>?_) (λ_=>FzOk.new) C (λi p j a x y=>?_))
 .simp only[Wp];rw[Xh,XI];refine⟨?_,rfl⟩;rw[Wg (by rw[d];exact z)];rfl
 .obtain⟨v,s,n,t⟩:=B i p j a x y;refine⟨v,?_,n,c.vr (h.sok sz) h t⟩;simp only[Wp];rw[Xh];exact s
theorem Step.phantom(h:RelH w L ι H nx)(sz:Nat):
  Step w L ι H nx w (ι.put nx 0 0 ⟨0,0,0,sz⟩) (H.set nx 0 (.row sz [] 0)) (nx+1):=by
 have c:Chg w ι H nx 0 0 ⟨0,0,0,sz⟩ w :=
  ⟨rfl,rfl,rfl,Wc _,λb t _=>rfl,λo=>by simp at o,λv e=>(by rw[h.freshI]at e;cases e),λs x m=>(by rw[h.freshI]at m;cases m)⟩
 refine c.step (h.sok sz) h (WL _) (WM _) (.mk' rfl (Wc _) (Wr _) (λk n=>?_) (λh=>by simp at h) (λi c d=>?_) (λi p j a d u=>?_))
 .simp at n
 .simp at d
 .simp at d
end
abbrev Kn:=List (Nat×AV)
def Kn.get:Kn->Nat->AV
 |[],_=>.undef
 |(j,v)::t,i=>bif Wa j i then v else Kn.get t i
def Kn.set:Kn->Nat->AV->Kn
 |[],i,v=>[(i,v)]
 |(j,u)::t,i,v=>bif Wa j i then(i,v)::t else(j,u)::Kn.set t i v
def memN:List Nat->Nat->Bool
 |[],_=>false
 |j::t,i=>bif Wa j i then true else memN t i
def Kn.drop:Kn->List Nat->Kn
 |[],_=>[]
 |(j,v)::t,l=>bif memN l j then Kn.drop t l else(j,v)::Kn.drop t l
theorem Kn.get_set(K:Kn)(i:Nat)(v:AV)(x:Nat):(K.set i v).get x=if x=i then v else K.get x:=by
 induction K with
 |nil=>
  by_cases b:x=i
  .subst b;simp[Kn.set,Kn.get]
  .simp[Kn.set,Kn.get,zbc (Xf b),b]
 |cons p t ih=>
  obtain⟨j,u⟩:=p;by_cases c:j=i
  .subst c;by_cases b:x=j
   .subst b;simp[Kn.set,Kn.get]
   .simp[Kn.set,Kn.get,zbc (Xf b),b]
  .by_cases b:x=i
   .subst b;simp[Kn.set,Kn.get,zbc c,ih]
   .simp only[Kn.set,zbc c,cond_false,Kn.get,ih,if_neg b]
theorem Kn.get_drop(K:Kn)(l:List Nat)(x:Nat):(K.drop l).get x=.undef\/(K.drop l).get x=K.get x:=by
 induction K with
 |nil=>exact .inl rfl
 |cons p t ih=>
  obtain⟨j,u⟩:=p;simp only[Kn.drop]
  cases g:memN l j with
  |true=>
   simp only[cond_true,Kn.get]
   cases e:Wa j x with
   |true=>
    left;have b:=zm e;subst b
    have key:∀t:Kn,(Kn.drop t l).get j=.undef:=by
     intro t
     induction t with
     |nil=>rfl
     |cons q t iht=>
      obtain⟨k,h⟩:=q;simp only[Kn.drop]
      cases c:memN l k with
      |true=>simpa using iht
      |false=>
       simp only[cond_false,Kn.get]
       cases d:Wa k j with
       |true=>rw[zm d]at c;rw[g]at c;cases c
       |false=>simpa using iht
    exact key t
   |false=>simpa using ih
  |false=>
   simp only[cond_false,Kn.get]
   cases e:Wa j x with
   |true=>right;rfl
   |false=>simpa using ih
inductive AOpd where
 |t (n:Nat)
 |c (v:AV)
 deriving Inhabited
def ev(ρ:Nat->AV):AOpd->AV
 |.t n=>ρ n
 |.c v=>v
def AV.cells:AV->List AV
 |.agg b=>b
 |v=>[v]
def AV.solid:AV->Bool
 |.undef |.tup _=>false
 |_=>true
def AV.wf:AV->Prop
 |.int k n=>InR k n
 |.sl _ n _=>n<=big
 |.str s=>s.size<=big
 |_=>True
structure ORes where
 side:Prop
 fact:Prop
 v:AV
 H:AH
 nx:Nat
def bad(H:AH)(nx:Nat):ORes:=⟨False,True,.undef,H,nx⟩
def tab(c:Nat->AV):Nat->Nat->List AV
 |0,_=>[]
 |n+1,k=>c k::tab c n (k+1)
def sub(l:List AV)(f n:Nat):List AV:=(l.drop f).take n
def splice(l:List AV)(f:Nat)(b:List AV):List AV:=l.take f++b++l.drop (f+b.length)
def zd5(agg:Bool)(n:Nat)(p:AV)(H:AH)(nx:Nat):ORes :=
 match p with
 |
  .ptr r q g i f=>match H.get r q with
  |
   some (.row d b e)=>
   let v:=bif agg then .agg (bif Wa f 0&&Wa n d then b.getD i []else sub (b.getD i []) f n)else(b.getD i []).getD f .undef
   ⟨g=e/\i<b.length/\f+n<=d,v.wf,v,H,nx⟩
  |_=>bad H nx
 |
  .iptr m c=>
  let v:=bif agg then .agg (tab c n 0)else c 0
  ⟨n<=m,v.wf,v,H,nx⟩
 |_=>bad H nx
def zfu(n:Nat)(p v:AV)(H:AH)(nx:Nat):ORes :=
 match p with
 |
  .ptr r q g i f=>match H.get r q with
  |
   some (.row c b d)=>
   ⟨g=d/\i<b.length/\f+n<=c/\v.solid=true/\v.cells.length=n,True,.undef,
    H.set r q (.row c (b.set i (bif Wa f 0&&Wa n c then v.cells else splice (b.getD i []) f v.cells)) d),nx⟩
  |_=>bad H nx
 |_=>bad H nx
def idxR(c:Nat)(x i:AV)(H:AH)(nx:Nat):ORes :=
 match x,i with
 |.sl b n f,.int _ k=>⟨b=c/\0<=k/\k<n,True,.iptr c (f k.toNat),H,nx⟩
 |
  .own r q g off n,.int _ k=>match H.get r q with
  |some (.row b _ d)=>⟨b=c/\g=d/\0<=k/\k<n,True,.ptr r q g (off+k.toNat) 0,H,nx⟩
  |_=>bad H nx
 |_,_=>bad H nx
def zcO(off n:Nat)(x:AV)(H:AH)(nx:Nat):ORes :=
 match x with
 |.ptr r q g i f=>⟨True,True,.ptr r q g i (f+off),H,nx⟩
 |.iptr m c=>⟨off+n<=m,True,.iptr n (λj=>c (off+j)),H,nx⟩
 |_=>bad H nx
def fldR(off n:Nat)(agg:Bool)(x:AV)(H:AH)(nx:Nat):ORes :=
 match x with
 |
  .agg b=>
  let v:=bif agg then .agg (sub b off n)else b.getD off .undef
  ⟨off+n<=b.length,v.wf,v,H,nx⟩
 |_=>bad H nx
def lenV:AV->Option Nat
 |.sl _ n _=>some n
 |.own _ _ _ _ n=>some n
 |.nilsl |.cut=>some 0
 |_=>none
def lenR(x:AV)(H:AH)(nx:Nat):ORes :=
 match x with
 |.sl _ n _=>⟨True,n<=big,.int .i64 n,H,nx⟩
 |.own _ _ _ _ n=>⟨True,n<=9223372036854775807,.int .i64 n,H,nx⟩
 |.nilsl=>⟨True,True,.int .i64 0,H,nx⟩
 |.cut=>⟨True,True,.int .i64 0,H,nx⟩
 |_=>bad H nx
def zte(x:AV)(H:AH)(nx:Nat):ORes :=
 match x with
 |.str s=>⟨True,s.size<=big,.int .i64 s.size,H,nx⟩
 |_=>bad H nx
def binI(op:BinOp)(x y:AV)(H:AH)(nx:Nat):ORes :=
 match x,y with
 |
  .int k a,.int c b=>
  match op with
  |.add=>⟨k=c,True,.int k (k.wrap (a+b)),H,nx⟩
  |.sub=>⟨k=c,True,.int k (k.wrap (a-b)),H,nx⟩
  |.mul=>⟨k=c,True,.int k (k.wrap (a*b)),H,nx⟩
  |.quo=>⟨k=c/\b≠0,True,.int k (k.wrap (a.tdiv b)),H,nx⟩
  |.rem=>⟨k=c/\b≠0,True,.int k (a.tmod b),H,nx⟩
  |.and=>⟨k=c,True,.int k (k.wrap (Xc k.bits a &&& Xc k.bits b).toNat),H,nx⟩
  |.or=>⟨k=c,True,.int k (k.wrap (Xc k.bits a ||| Xc k.bits b).toNat),H,nx⟩
  |.xor=>⟨k=c,True,.int k (k.wrap (Xc k.bits a ^^^ Xc k.bits b).toNat),H,nx⟩
  |.andNot=>⟨k=c,True,.int k (k.wrap (Xc k.bits a &&& ~~~(Xc k.bits b)).toNat),H,nx⟩
  |.shl=>⟨0<=b,True,.int k (k.wrap (a*2 ^ (min b.toNat k.bits))),H,nx⟩
  |.shr=>⟨0<=b,True,.int k (a.fdiv (2 ^ (min b.toNat k.bits))),H,nx⟩
  |.eql=>⟨k=c,True,.bool (decide (a=b)),H,nx⟩
  |.neq=>⟨k=c,True,.bool (decide (a≠b)),H,nx⟩
  |.lss=>⟨k=c,True,.bool (decide (a<b)),H,nx⟩
  |.leq=>⟨k=c,True,.bool (decide (a<=b)),H,nx⟩
  |.gtr=>⟨k=c,True,.bool (decide (b<a)),H,nx⟩
  |.geq=>⟨k=c,True,.bool (decide (b<=a)),H,nx⟩
 |_,_=>bad H nx
def eqB(neg:Bool)(x y:AV)(H:AH)(nx:Nat):ORes :=
 match x,y with
 |.bool a,.bool b=>⟨True,True,.bool (bif neg then a != b else a == b),H,nx⟩
 |_,_=>bad H nx
def unR(op:UnOp)(x:AV)(H:AH)(nx:Nat):ORes :=
 match op,x with
 |.not,.bool b=>⟨True,True,.bool (!b),H,nx⟩
 |.neg,.int k n=>⟨True,True,.int k (k.wrap (0-n)),H,nx⟩
 |_,_=>bad H nx
def zmt(k:IntKind)(x:AV)(H:AH)(nx:Nat):ORes :=
 match x with
 |.int _ n=>⟨True,True,.int k (k.wrap n),H,nx⟩
 |_=>bad H nx
def zlu(c a b:AV)(H:AH)(nx:Nat):ORes :=
 match c with
 |.bool t=>⟨True,True,bif t then a else b,H,nx⟩
 |_=>bad H nx
def zC3:List AV->List (Nat×Nat×AV)->List AV
 |b,[]=>b
 |b,(off,_,v)::r=>zC3 (splice b off v.cells) r
def ztJ(n:Nat):List (Nat×Nat×AV)->Prop
 |[]=>True
 |(off,size,v)::r=>(v.solid=true/\v.cells.length=size/\off+size<=n)/\ztJ n r
def zg3(zero:List AV)(parts:List (Nat×Nat×AV))(H:AH)(nx:Nat):ORes :=
 ⟨ztJ zero.length parts,True,.agg (zC3 zero parts),H,nx⟩
def zc7:List (List AV)->List (Nat×AV)->List (List AV)
 |b,[]=>b
 |b,(i,v)::r=>zc7 (b.set i v.cells) r
def znJ(n b:Nat):List (Nat×AV)->Prop
 |[]=>True
 |(i,v)::r=>(v.solid=true/\v.cells.length=b/\i<n)/\znJ n b r
def zcM(b len:Nat)(zero:List AV)(parts:List (Nat×AV))(H:AH)(nx:Nat):ORes :=
 ⟨znJ len b parts,True,.own nx 0 0 0 len,H.set nx 0 (.row b (zc7 (Wh len zero) parts) 0),nx+1⟩
def boxR(x:AV)(H:AH)(nx:Nat):ORes :=
 ⟨x.solid=true,True,.ptr nx 0 0 0 0,H.set nx 0 (.row x.cells.length [x.cells] 0),nx+1⟩
def AV.flat0:AV->Bool
 |.undef |.int .. |.bool _ |.str _ |.nilp |.nilfn |.nilsl |.cut |.iptr .. |.sl ..=>true
 |_=>false
def zz:List AV->Bool
 |[]=>true
 |v::r=>v.flat0&&zz r
def zoC(x:AV)(H:AH)(nx:Nat):ORes :=
 ⟨x.solid=true/\zz x.cells=true,True,.iptr x.cells.length (λj=>x.cells.getD j .undef),H,nx⟩
def zbu(b len:Nat)(zero:List AV)(parts:List (Nat×AV))(H:AH)(nx:Nat):ORes :=
 ⟨znJ len b parts/\(zc7 (Wh len zero) parts).all zz=true,True,.sl b len (λi j=>((zc7 (Wh len zero) parts).getD i []).getD j .undef),H,nx⟩
def zjz(zero:List AV)(H:AH)(nx:Nat):ORes :=
 ⟨True,True,.ptr nx 0 0 0 0,H.set nx 0 (.row zero.length [zero] 0),nx+1⟩
def zlL(b:Nat)(H:AH)(nx:Nat):ORes :=
 ⟨True,True,.own nx 0 0 0 0,H.set nx 0 (.row b [] 0),nx+1⟩
def zlz(d bytes:Nat)(zero:List AV)(l c:AV)(H:AH)(nx:Nat):ORes :=
 match l,c with
 |.int k n,.int b m=>⟨k=.i64/\b=.i64/\0<=n/\n<=m/\bytes*m<=140737488355328/\0<bytes,True,.own nx 0 0 0 n.toNat,H.set nx 0 (.row d (Wh n.toNat zero) 0),nx+1⟩
 |_,_=>bad H nx
def zfY(d:Nat)(x:AV)(o m:Option AV)(H:AH)(nx:Nat):ORes :=
 let l:Option Int:=match o with|none=>some 0|some (.int _ k)=>some k|_=>none
 let h (n:Nat):Option Int:=match m with|none=>some n|some (.int _ k)=>some k|_=>none
 match x with
 |
  .sl c n f=>match l,h n with
  |some a,some b=>⟨c=d/\0<=a/\a<=b/\b<=n,True,.sl d (b-a).toNat (λi j=>f (a.toNat+i) j),H,nx⟩
  |_,_=>bad H nx
 |
  .own r q g off n=>match H.get r q,l,h n with
  |some (.row c _ e),some a,some b=>⟨c=d/\g=e/\0<=a/\a<=b/\b<=n,True,.own r q g (off+a.toNat) (b-a).toNat,H,nx⟩
  |_,_,_=>bad H nx
 |
  .nilsl=>match l,h 0 with
  |some a,some b=>⟨a=0/\b=0,True,.nilsl,H,nx⟩
  |_,_=>bad H nx
 |_=>bad H nx
def cutR(x:AV)(H:AH)(nx:Nat):ORes :=
 match x with
 |.sl _ _ _ |.own _ _ _ _ _ |.nilsl |.cut=>⟨True,True,.cut,H,nx⟩
 |_=>bad H nx
def zcq(d:Nat)(x:AV)(H:AH):Option (List (List AV)) :=
 match x with
 |.sl b n f=>bif Wa b d then some ((Wj n).map λi=>tab (f i) d 0)else none
 |
  .own r q g off n=>match H.get r q with
  |some (.row b c e)=>bif Wa b d&&Wa g e then some ((c.drop off).take n)else none
  |_=>none
 |.nilsl |.cut=>some []
 |_=>none
def fits(H:AH):AV->Prop
 |
  .own r q _ off n=>match H.get r q with
  |some (.row _ b _)=>off+n<=b.length
  |_=>False
 |_=>True
def ze8(d bytes:Nat)(x y:AV)(H:AH)(nx:Nat):ORes :=
 match zcq d y H,lenV y with
 |
  some b,some m=>match x with
  |
   .own r q g off n=>match H.get r q with
   |
    some (.row e c h)=>
    ⟨e=d/\g=h/\off+n<=c.length/\fits H y/\(n+m)*bytes<=140737488355328,True,.own r q (g+1) 0 (n+m),H.set r q (.row d ((c.drop off).take n++b) (g+1)),nx⟩
   |_=>bad H nx
  |.nilsl |.cut=>⟨fits H y/\m*bytes<=140737488355328,True,.own nx 0 0 0 m,H.set nx 0 (.row d b 0),nx+1⟩
  |_=>bad H nx
 |_,_=>bad H nx
def ziF(e:Nat)(zero:List AV)(x:AV)(H:AH)(nx:Nat):ORes :=
 match x with
 |
  .own r q g off n=>match H.get r q with
  |some (.row c b d)=>⟨c=e/\g=d/\off+n<=b.length,True,.undef,H.set r q (.row e (b.take off++Wh n zero++b.drop (off+n)) d),nx⟩
  |_=>bad H nx
 |_=>bad H nx
def extR(i:Nat)(x:AV)(H:AH)(nx:Nat):ORes :=
 match x with
 |.tup b=>⟨i<b.length,True,b.getD i .undef,H,nx⟩
 |_=>bad H nx
def nilB:Bool->AV->Option (Option Bool)
 |false,.nilsl=>some (some true)
 |false,.sl _ n _=>some (bif Wa n 0 then none else some false)
 |false,.own _ _ _ _ n=>some (bif Wa n 0 then none else some false)
 |false,.cut=>some none
 |true,.nilp=>some (some true)
 |true,.ptr ..=>some (some false)
 |true,.iptr ..=>some (some false)
 |_,_=>none
inductive XOp where
 |mark
 |nilck
 |seq (neg:Bool)
 |sidx
 |b2s
 |s2b
 |sapp
 |min
 |max
 |eqs (neg:Bool) (ss:List Nat)
 |sl3 (sz:Nat)
 |mkmap
 |mlook (kk:Option IntKind) (ok:Bool) (zero:AV)
 |mset (kk:Option IntKind)
 |mlen
 |mdel (kk:Option IntKind)
 |mrange
 |ment
 |aidx (len sz:Nat) (agg:Bool)
 |aaddr (len sz:Nat)
 |capn
 |apz (sz bytes:Nat) (zero:List AV)
 |nope
 deriving Inhabited
def zyb(s:ByteArray)(i:Nat):Nat:=(s.data.toList.getD i 0).toNat
def zms(b:UInt8):List AV:=[.int .u8 (b.toNat:Int)]
def zgu:List (List AV)->Option (List UInt8)
 |[]=>some []
 |
  c::r=>match c with
  |[.int .u8 n]=>(zgu r).map (UInt8.ofNat n.toNat::·)
  |_=>none
def zT:List Nat->List AV->List AV->Option Bool
 |[],[],[]=>some true
 |0::s,.int k a::l,.int c b::m=>if k=c then(zT s l m).map (decide (a=b)&&·)else none
 |1::s,.str a::l,.str b::m=>(zT s l m).map (decide (a=b)&&·)
 |2::s,.bool a::l,.bool b::m=>(zT s l m).map ((a == b)&&·)
 |_,_,_=>none
def zwg:AV->AV->Option Bool
 |.int k a,.int c b=>if k=c then some (decide (a=b))else none
 |.str a,.str b=>some (decide (a=b))
 |_,_=>none
def zhq:Option IntKind->AV->Prop
 |some q,.int k _=>q=k
 |none,.str _=>True
 |_,_=>False
def zeC(k:AV):List (List AV)->Nat->Option (Option (Nat×AV))
 |[],_=>some none
 |
  c::r,i=>match c with
  |
   [k',v,_]=>match zwg k k' with
   |some true=>some (some (i,v))
   |some false=>zeC k r (i+1)
   |none=>none
  |_=>none
def zr4(x:AV)(H:AH)(nx:Nat):ORes :=
 match x with
 |
  .own r q g off n=>match H.get r q with
  |some (.row d b c)=>⟨d=1/\g=c/\0<n,True,.own r q g off n,H.set r q (.row d b c),nx⟩
  |_=>bad H nx
 |_=>bad H nx
def zok(x:AV)(H:AH)(nx:Nat):ORes :=
 match x with
 |.ptr .. |.iptr ..=>⟨True,True,x,H,nx⟩
 |_=>bad H nx
def seqR(neg:Bool)(x y:AV)(H:AH)(nx:Nat):ORes :=
 match x,y with
 |.str a,.str b=>⟨True,True,.bool (bif neg then !decide (a=b)else decide (a=b)),H,nx⟩
 |_,_=>bad H nx
def zwK(x i:AV)(H:AH)(nx:Nat):ORes :=
 match x,i with
 |.str s,.int _ k=>⟨0<=k/\k<s.size,True,.int .u8 (zyb s k.toNat),H,nx⟩
 |_,_=>bad H nx
def b2sR(x:AV)(H:AH)(nx:Nat):ORes :=
 match zcq 1 x H with
 |
  some els=>match zgu els with
  |some l=>⟨fits H x/\(lenV x).isSome=true,(AV.str ⟨l.toArray⟩).wf,.str ⟨l.toArray⟩,H,nx⟩
  |none=>bad H nx
 |none=>bad H nx
def s2bR(x:AV)(H:AH)(nx:Nat):ORes :=
 match x with
 |.str s=>⟨True,True,.own nx 0 0 0 s.size,H.set nx 0 (.row 1 (s.data.toList.map zms) 0),nx+1⟩
 |_=>bad H nx
def zqU(x y:AV)(H:AH)(nx:Nat):ORes :=
 match y with
 |
  .str s=>match x with
  |
   .own r q g off n=>match H.get r q with
   |
    some (.row c b d)=>
    ⟨c=1/\g=d/\off+n<=b.length/\n+s.size<=140737488355328,True,.own r q (g+1) 0 (n+s.size),H.set r q (.row 1 ((b.drop off).take n++s.data.toList.map zms) (g+1)),nx⟩
   |_=>bad H nx
  |.nilsl |.cut=>⟨s.size<=140737488355328,True,.own nx 0 0 0 s.size,H.set nx 0 (.row 1 (s.data.toList.map zms) 0),nx+1⟩
  |_=>bad H nx
 |_=>bad H nx
def minR(d:Bool)(x y:AV)(H:AH)(nx:Nat):ORes :=
 match x,y with
 |.int k a,.int c b=>⟨k=c,True,.int k (bif d then(if a<b then b else a)else(if b<a then b else a)),H,nx⟩
 |_,_=>bad H nx
def eqsR(neg:Bool)(c:List Nat)(x y:AV)(H:AH)(nx:Nat):ORes :=
 match x,y with
 |
  .agg a,.agg b=>match zT c a b with
  |some t=>⟨True,True,.bool (bif neg then !t else t),H,nx⟩
  |none=>bad H nx
 |_,_=>bad H nx
def sl3R(e:Nat)(x h m:AV)(H:AH)(nx:Nat):ORes :=
 match h,m with
 |
  .int _ b,.int _ c=>match x with
  |.sl d n f=>⟨d=e/\0<=b/\b<=c/\c<=n,True,.sl e b.toNat f,H,nx⟩
  |
   .own r q g off n=>match H.get r q with
   |some (.row d _ j)=>⟨d=e/\g=j/\0<=b/\b<=c/\c<=n,True,.own r q g off b.toNat,H,nx⟩
   |_=>bad H nx
  |.nilsl=>⟨b=0/\c=0,True,.nilsl,H,nx⟩
  |_=>bad H nx
 |_,_=>bad H nx
def zAT(H:AH)(nx:Nat):ORes:=⟨True,True,.mp nx 0,H.set nx 0 (.row 3 [[.int .i64 0,.undef,.undef]] 0),nx+1⟩
def mval(zero:AV):Option (Nat×AV)->AV
 |some (_,v)=>v
 |none=>zero
def mgot(ok:Bool)(zero:AV)(r:Option (Nat×AV)):AV :=
 bif ok then .tup [mval zero r,.bool r.isSome]else mval zero r
def zjn(str:Option IntKind)(ok:Bool)(zero m k:AV)(H:AH)(nx:Nat):ORes :=
 match m with
 |.nilmp=>⟨zhq str k,(mgot ok zero none).wf,mgot ok zero none,H,nx⟩
 |
  .mp r q=>match H.get r q with
  |
   some (.row c (_::es) g)=>match zeC k es 0 with
   |some b=>⟨c=3/\g=0/\zhq str k,(mgot ok zero b).wf,mgot ok zero b,H,nx⟩
   |none=>bad H nx
  |_=>bad H nx
 |_=>bad H nx
def znK(str:Option IntKind)(m k v:AV)(H:AH)(nx:Nat):ORes :=
 match m with
 |
  .mp r q=>match H.get r q with
  |
   some (.row e (hd::b) g)=>match hd with
   |
    [.int .i64 c,u,d]=>match zeC k b 0 with
    |some (some (i,_))=>⟨e=3/\g=0/\zhq str k,True,.undef,H.set r q (.row 3 ([.int .i64 c,u,d]::b.set i [k,v,(b.getD i []).getD 2 .undef]) 0),nx⟩
    |some none=>⟨e=3/\g=0/\zhq str k/\c<9223372036854775807,True,.undef,H.set r q (.row 3 ([.int .i64 (c+1),u,d]::(b++[[k,v,.int .i64 c]])) 0),nx⟩
    |none=>bad H nx
   |
    [.undef,u,d]=>match zeC k b 0 with
    |some (some (i,_))=>⟨e=3/\g=0/\zhq str k,True,.undef,H.set r q (.row 3 ([.undef,u,d]::b.set i [k,v,(b.getD i []).getD 2 .undef]) 0),nx⟩
    |some none=>⟨e=3/\g=0/\zhq str k,True,.undef,H.set r q (.row 3 ([.undef,u,d]::(b++[[k,v,.undef]])) 0),nx⟩
    |none=>bad H nx
   |_=>bad H nx
  |_=>bad H nx
 |_=>bad H nx
def zsv(m:AV)(H:AH)(nx:Nat):ORes :=
 match m with
 |.nilmp=>⟨True,True,.int .i64 0,H,nx⟩
 |
  .mp r q=>match H.get r q with
  |some (.row c (_::b) g)=>⟨c=3/\g=0/\b.length<=big,True,.int .i64 b.length,H,nx⟩
  |_=>bad H nx
 |_=>bad H nx
def zrR(str:Option IntKind)(m k:AV)(H:AH)(nx:Nat):ORes :=
 match m with
 |.nilmp=>⟨zhq str k,True,.tup [],H,nx⟩
 |
  .mp r q=>match H.get r q with
  |
   some (.row c (hd::b) g)=>match zeC k b 0 with
   |some (some (i,_))=>⟨c=3/\g=0/\zhq str k,True,.tup [],H.set r q (.row 3 (hd::b.eraseIdx i) 0),nx⟩
   |some none=>⟨c=3/\g=0/\zhq str k,True,.tup [],H,nx⟩
   |none=>bad H nx
  |_=>bad H nx
 |_=>bad H nx
def zhA(m:AV)(H:AH)(nx:Nat):ORes :=
 match m with
 |.nilmp=>⟨True,True,.it nx,H.set nx 0 (.row 1 [[.nilmp],[.int .i64 0],[.int .i64 0]] 0),nx+1⟩
 |
  .mp r q=>match H.get r q with
  |
   some (.row b (hd::_) g)=>match hd with
   |[.int .i64 c,_,_]=>⟨b=3/\g=0,True,.it nx,H.set nx 0 (.row 1 [[.mp r q],[.int .i64 c],[.int .i64 c]] 0),nx+1⟩
   |_=>bad H nx
  |_=>bad H nx
 |_=>bad H nx
def zIq(b:Int):List (List AV)->Option (AV×AV)
 |[]=>none
 |
  e::r=>match e with
  |[k,v,.int .i64 c]=>if c=b then some (k,v)else zIq b r
  |_=>none
def zz2(x:AV)(H:AH)(nx:Nat):ORes :=
 match x with
 |
  .it r=>match H.get r 0 with
  |
   some (.row h (m::sn::st::seen) g)=>match m,st,seen.getLast? with
   |
    [.mp rm qm],[.int .i64 t],some [.int .i64 b]=>match H.get rm qm with
    |
     some (.row d (hd::es) e)=>match hd,zIq b es with
     |[.int .i64 c,_,_],some (k,v)=>⟨h=1/\g=0/\d=3/\e=0/\c=t,True,.tup [k,v],H,nx⟩
     |_,_=>bad H nx
    |_=>bad H nx
   |_,_,_=>bad H nx
  |_=>bad H nx
 |_=>bad H nx
def zvD(len b:Nat)(agg:Bool)(x i:AV)(H:AH)(nx:Nat):ORes :=
 match x,i with
 |
  .agg c,.int _ k=>
  let v:=bif agg then .agg (sub c (k.toNat*b) b)else c.getD (k.toNat*b) .undef
  ⟨0<=k/\k<len/\len*b<=c.length,v.wf,v,H,nx⟩
 |_,_=>bad H nx
def zmK(len b:Nat)(p i:AV)(H:AH)(nx:Nat):ORes :=
 match p,i with
 |.ptr r q g j f,.int _ k=>⟨0<=k/\k<len,True,.ptr r q g j (f+k.toNat*b),H,nx⟩
 |.iptr m c,.int _ k=>⟨0<=k/\k<len/\len*b<=m,True,.iptr b (λj=>c (k.toNat*b+j)),H,nx⟩
 |_,_=>bad H nx
def zzy(x:AV)(H:AH)(nx:Nat):ORes :=
 match x with
 |.nilsl=>⟨True,True,.int .i64 0,H,nx⟩
 |_=>bad H nx
def apzR(b bytes:Nat)(zero:List AV)(x k:AV)(H:AH)(nx:Nat):ORes :=
 match x,k with
 |.nilsl,.int _ n=>⟨0<=n/\n*bytes<=140737488355328/\0<b/\0<bytes,True,.own nx 0 0 0 n.toNat,H.set nx 0 (.row b (Wh n.toNat zero) 0),nx+1⟩
 |_,_=>bad H nx
def xopR:XOp->List AV->AH->Nat->ORes
 |.mark,[x],H,nx=>zr4 x H nx
 |.nilck,[x],H,nx=>zok x H nx
 |.seq neg,[x,y],H,nx=>seqR neg x y H nx
 |.sidx,[x,i],H,nx=>zwK x i H nx
 |.b2s,[x],H,nx=>b2sR x H nx
 |.s2b,[x],H,nx=>s2bR x H nx
 |.sapp,[x,y],H,nx=>zqU x y H nx
 |.min,[x,y],H,nx=>minR false x y H nx
 |.max,[x,y],H,nx=>minR true x y H nx
 |.eqs neg c,[x,y],H,nx=>eqsR neg c x y H nx
 |.sl3 b,[x,h,m],H,nx=>sl3R b x h m H nx
 |.mkmap,[],H,nx=>zAT H nx
 |.mlook str ok z,[m,k],H,nx=>zjn str ok z m k H nx
 |.mset str,[m,k,v],H,nx=>znK str m k v H nx
 |.mlen,[m],H,nx=>zsv m H nx
 |.mdel str,[m,k],H,nx=>zrR str m k H nx
 |.mrange,[m],H,nx=>zhA m H nx
 |.ment,[x],H,nx=>zz2 x H nx
 |.aidx len b agg,[x,i],H,nx=>zvD len b agg x i H nx
 |.aaddr len b,[p,i],H,nx=>zmK len b p i H nx
 |.capn,[x],H,nx=>zzy x H nx
 |.apz b bytes z,[x,k],H,nx=>apzR b bytes z x k H nx
 |_,_,H,nx=>bad H nx
def XOp.pure:XOp->Bool
 |.nilck |.seq _ |.sidx |.b2s |.min |.max |.eqs _ _ |.sl3 _ |.mlook .. |.mlen |.aidx .. |.aaddr .. |.capn=>true
 |_=>false
def XOp.reads:XOp->Bool
 |.b2s |.sl3 _ |.mlook .. |.mlen=>true
 |_=>false
inductive AOp where
 |mov (x:AOpd)
 |mknil (sz:Nat)
 |pick (c a b:AOpd)
 |load (agg:Bool) (n:Nat) (p:AOpd)
 |store (n:Nat) (p v:AOpd)
 |idx (sz:Nat) (x i:AOpd)
 |fldaddr (off n:Nat) (x:AOpd)
 |fld (off n:Nat) (agg:Bool) (x:AOpd)
 |len (x:AOpd)
 |slen (x:AOpd)
 |bin (op:BinOp) (x y:AOpd)
 |eqb (neg:Bool) (x y:AOpd)
 |un (op:UnOp) (x:AOpd)
 |conv (k:IntKind) (x:AOpd)
 |build (zero:List AV) (parts:List (Nat×Nat×AOpd))
 |buildSl (sz len:Nat) (zero:List AV) (parts:List (Nat×AOpd))
 |box (x:AOpd)
 |rbox (x:AOpd)
 |rbuildSl (sz len:Nat) (zero:List AV) (parts:List (Nat×AOpd))
 |mnext (x:AOpd)
 |alloc (zero:List AV)
 |mksl (sz bytes:Nat) (zero:List AV) (l c:AOpd)
 |slice (sz:Nat) (x:AOpd) (lo hi:Option AOpd)
 |cut (x:AOpd)
 |mkfn (f:Fn) (caps:List AOpd)
 |append (sz bytes:Nat) (x y:AOpd)
 |append2 (sz bytes:Nat) (x y:AOpd)
 |clear (sz:Nat) (zero:List AV) (x:AOpd)
 |ext (i:Nat) (x:AOpd)
 |isnil (neg ptr:Bool) (x:AOpd)
 |call (f:FuncId) (args:List AOpd)
 |callq (f:FuncId) (args:List AOpd)
 |callv (f:AOpd) (args:List AOpd)
 |xop (x:XOp) (args:List AOpd)
 deriving Inhabited
def evs(K:Nat->AV):List AOpd->List AV
 |[]=>[]
 |x::r=>ev K x::evs K r
def zeD(K:Nat->AV):List (Nat×Nat×AOpd)->List (Nat×Nat×AV)
 |[]=>[]
 |(a,b,x)::r=>(a,b,ev K x)::zeD K r
def zkD(K:Nat->AV):List (Nat×AOpd)->List (Nat×AV)
 |[]=>[]
 |(a,x)::r=>(a,ev K x)::zkD K r
def evO(K:Nat->AV):Option AOpd->Option AV
 |none=>none
 |some x=>some (ev K x)
def aop:AOp->(Nat->AV)->AH->Nat->ORes
 |.mov x,K,H,nx=>⟨True,True,ev K x,H,nx⟩
 |.mknil d,_,H,nx=>zlL d H nx
 |.pick c a b,K,H,nx=>zlu (ev K c) (ev K a) (ev K b) H nx
 |.load agg n p,K,H,nx=>zd5 agg n (ev K p) H nx
 |.store n p v,K,H,nx=>zfu n (ev K p) (ev K v) H nx
 |.idx d x i,K,H,nx=>idxR d (ev K x) (ev K i) H nx
 |.fldaddr off n x,K,H,nx=>zcO off n (ev K x) H nx
 |.fld off n agg x,K,H,nx=>fldR off n agg (ev K x) H nx
 |.len x,K,H,nx=>lenR (ev K x) H nx
 |.slen x,K,H,nx=>zte (ev K x) H nx
 |.bin op x y,K,H,nx=>binI op (ev K x) (ev K y) H nx
 |.eqb neg x y,K,H,nx=>eqB neg (ev K x) (ev K y) H nx
 |.un op x,K,H,nx=>unR op (ev K x) H nx
 |.conv k x,K,H,nx=>zmt k (ev K x) H nx
 |.build zero parts,K,H,nx=>zg3 zero (zeD K parts) H nx
 |.buildSl d len zero parts,K,H,nx=>zcM d len zero (zkD K parts) H nx
 |.box x,K,H,nx=>boxR (ev K x) H nx
 |.rbox x,K,H,nx=>zoC (ev K x) H nx
 |.rbuildSl d len zero parts,K,H,nx=>zbu d len zero (zkD K parts) H nx
 |.mnext _,_,H,nx=>bad H nx
 |.alloc zero,_,H,nx=>zjz zero H nx
 |.mksl d bytes zero l c,K,H,nx=>zlz d bytes zero (ev K l) (ev K c) H nx
 |.slice d x h g,K,H,nx=>zfY d (ev K x) (evO K h) (evO K g) H nx
 |.cut x,K,H,nx=>cutR (ev K x) H nx
 |.mkfn f e,K,H,nx=>⟨True,True,.fn f (evs K e),H,nx⟩
 |.append d bytes x y,K,H,nx=>ze8 d bytes (ev K x) (ev K y) H nx
 |.append2 _ _ _ _,_,H,nx=>bad H nx
 |.clear d zero x,K,H,nx=>ziF d zero (ev K x) H nx
 |.ext i x,K,H,nx=>extR i (ev K x) H nx
 |.isnil _ _ _,_,H,nx=>bad H nx
 |.call _ _,_,H,nx=>bad H nx
 |.callq _ _,_,H,nx=>bad H nx
 |.callv _ _,_,H,nx=>bad H nx
 |.xop x args,K,H,nx=>xopR x (evs K args) H nx
structure AOper where
 dst:Option Nat
 op:AOp
 guard:Option (Nat×Bool)
 deriving Inhabited
inductive DTree where
 |done
 |stop
 |step (o:AOper) (t:DTree)
 |alt (o:AOper) (t r:DTree)
 deriving Inhabited
def zI7:List (AOper×DTree)->DTree
 |[]=>.stop
 |(o,t)::r=>.alt o t (zI7 r)
inductive ACode where
 |skip
 |region (ops:List AOper) (drop:List Nat)
 |draw (t:DTree) (drop:List Nat)
 |seq (a b:ACode)
 |cond (c:AOpd) (a b:ACode)
 |block (id:Nat) (c:ACode)
 |loop (c:ACode)
 |exit (id:Nat)
 |ret
 |mark (n:Nat) (c:ACode)
 |join (a b:ACode)
 |scope (c:ACode)
 |label (l:Nat)
 |goto (l:Nat)
 |jump (l:Nat) (a b:ACode)
 |range (g:AOpd) (ps:List Nat) (a b:ACode)
 deriving Inhabited
def ACode.strip:ACode->ACode
 |.region ops _=>.region ops []
 |.draw t _=>.draw t []
 |.seq a b=>.seq a.strip b.strip
 |.join a b=>.seq a.strip b.strip
 |.cond c a b=>.cond c a.strip b.strip
 |.block id c=>.block id c.strip
 |.loop c=>.loop c.strip
 |.skip=>.skip
 |.exit id=>.exit id
 |.ret=>.ret
 |.mark _ c=>c.strip
 |.scope c=>.scope c.strip
 |.label l=>.label l
 |.goto l=>.goto l
 |.jump l a b=>.jump l a.strip b.strip
 |.range g d a b=>.range g d a.strip b.strip
def cav:Nat->Value->Option AV
 |_,.int k n=>if k.min<=n/\n<=k.max then some (.int k n)else none
 |_,.bool b=>some (.bool b)
 |_,.string s=>if s.size<=big then some (.str s)else none
 |_,.pointer none=>some .nilp
 |_,.slice none 0 0=>some .nilsl
 |_,.nilFunc=>some .nilfn
 |_,.map none=>some .nilmp
 |d+1,.agg c=>if c.all (·.oneCell')then(c.toList.mapM (cav d)).map .agg else none
 |_,_=>none
def copd:Operand->Option AOpd
 |.tmp t=>some (.t t)
 |.const v=>(cav 2 v).map .c
 |.func f=>some (.c (.fn (.func f) []))
 |.global _=>none
def zK0:Option Operand->Option (Option AOpd)
 |none=>some none
 |some l=>(copd l).map some
def zdf:TypeDesc->Bool
 |.struct _=>true
 |.array _ _=>true
 |_=>false
def zhC(P:Program)(t:TypeId):Option (List AV) :=
 match P.info? t with
 |
  some i=>match i.zero with
  |some z=>if z.cells.size=i.size/\z.cells.all (·.oneCell')then z.cells.toList.mapM (cav 1)else none
  |none=>none
 |none=>none
def zfD(P:Program)(b:Builtin)(c:Array TypeId)(args:Array Operand):Option AOp :=
 match b,c.toList,args.toList with
 |
  .len,[t],[x]=>match P.underlying t with
  |some (.slice _)=>(copd x).map .len
  |some .string=>(copd x).map .slen
  |_=>none
 |
  .append,[t,u],[x,y]=>match P.underlying t,P.underlying u with
  |
   some (.slice e),some (.slice e')=>match P.info? e,zhC P e with
   |some i,some _=>if e=e'/\0<i.size/\0<i.bytes then do some (.append i.size i.bytes (<-copd x) (<-copd y))else none
   |_,_=>none
  |_,_=>none
 |
  .clear,[t],[x]=>match P.underlying t with
  |
   some (.slice e)=>match P.info? e,zhC P e with
   |some i,some z=>if 0<i.size then do some (.clear i.size z (<-copd x))else none
   |_,_=>none
  |_=>none
 |_,_,_=>none
def cop0(
     P:Program)(o:Oper):Option AOp :=
 match o.op with
 |
  .move x |.assign x=>match x with
  |
   .const (.slice none 0 0)=>match P.underlying o.type with
   |
    some (.slice e)=>match P.info? e with
    |some i=>if 0<i.size then some (.mknil i.size)else none
    |none=>none
   |_=>none
  |_=>(copd x).map .mov
 |.pick c a b=>do some (.pick (<-copd c) (<-copd a) (<-copd b))
 |.alloc e=>(zhC P e).map .alloc
 |.box _ x=>(copd x).map .box
 |
  .load t a=>match P.underlying t,P.info? t with
  |some d,some i=>if zdf d then(copd a).map (.load true i.size)else(copd a).map (.load false 1)
  |_,_=>none
 |
  .store t a x=>match P.info? t with
  |some i=>do some (.store i.size (<-copd a) (<-copd x))
  |none=>none
 |
  .build t parts=>match P.underlying t,zhC P t with
  |
   some (.struct g),some z=>if g.toList.all (λf=>(P.info? f.type).isSome)then do
   let m <-parts.toList.mapM λp=>do
    let f <-g[p.1]?
    let i <-P.info? f.type
    some (f.offset,i.size,(<-copd p.2))
   some (.build z m)
   else none
  |_,_=>none
 |
  .buildSlice t len parts=>match P.underlying t with
  |
   some (.slice e)=>match P.info? e,zhC P e with
   |
    some i,some z=>if len*i.size<=16777216/\0<i.size then do
     let m <-parts.toList.mapM λp=>do some (p.1,(<-copd p.2))
     some (.buildSl i.size len z m)
    else none
   |_,_=>none
  |_=>none
 |
  .binOp op t x y _=>match P.underlying t with
  |some (.int _)=>do some (.bin op (<-copd x) (<-copd y))
  |
   some .bool=>match op with
   |.eql=>do some (.eqb false (<-copd x) (<-copd y))
   |.neq=>do some (.eqb true (<-copd x) (<-copd y))
   |_=>none
  |
   some (.slice _)=>match y with
   |
    .const (.slice none 0 0)=>match op with
    |.eql=>(copd x).map (.isnil false false)
    |.neq=>(copd x).map (.isnil true false)
    |_=>none
   |_=>none
  |
   some (.pointer _)=>match y with
   |
    .const (.pointer none)=>match op with
    |.eql=>(copd x).map (.isnil false true)
    |.neq=>(copd x).map (.isnil true true)
    |_=>none
   |_=>none
  |_=>none
 |.unOp op _ x=>(copd x).map (.un op)
 |
  .convert s d x=>match P.underlying s,P.underlying d with
  |some (.int _),some (.int k)=>(copd x).map (.conv k)
  |_,_=>none
 |.makeFunc fn first h=>if first.size=0 then(h.toList.mapM copd).map (.mkfn fn)else none
 |
  .makeSlice t l c=>match P.underlying t with
  |
   some (.slice e)=>match P.info? e,zhC P e with
   |some i,some z=>if 0<i.size then do some (.mksl i.size i.bytes z (<-copd l) (<-copd c))else none
   |_,_=>none
  |_=>none
 |
  .slice t x q n mx=>match P.underlying t with
  |
   some (.slice e)=>match P.info? e with
   |
    some i=>match mx with
    |
     none=>do
     let w <-copd x
     let v <-zK0 q
     let u <-zK0 n
     if 0<i.size then some (.slice i.size w v u)else none
    |
     some (.const (.int .i64 0))=>match q,n with
     |none,some (.const (.int .i64 0))=>(copd x).map .cut
     |_,_=>none
    |_=>none
   |none=>none
  |_=>none
 |
  .fieldAddr s x f=>match P.underlying s with
  |
   some (.struct g)=>do
   let fd <-g[f]?
   let i <-P.info? fd.type
   if 0<i.size then some (.fldaddr fd.offset i.size (<-copd x))else none
  |_=>none
 |
  .field s x f=>match P.underlying s with
  |
   some (.struct g)=>do
   let fd <-g[f]?
   let i <-P.info? fd.type
   let d <-P.underlying fd.type
   if zdf d then some (.fld fd.offset i.size true (<-copd x))else some (.fld fd.offset 1 false (<-copd x))
  |_=>none
 |
  .indexAddr t x i=>match P.underlying t with
  |
   some (.slice e)=>match P.info? e with
   |some j=>if 0<j.size then do some (.idx j.size (<-copd x) (<-copd i))else none
   |none=>none
  |_=>none
 |.extract x i=>(copd x).map (.ext i)
 |
  .call c=>match c.callee with
  |.builtin b=>zfD P b c.argTypes c.args
  |
   .value (.func f)=>match P.funcs[f]? with
   |some fn=>if fn.body.isSome/\fn.name≠"runtime.NumGoroutine" then(c.args.toList.mapM copd).map (.call f)else none
   |none=>none
  |.value (.tmp t)=>(c.args.toList.mapM copd).map (.callv (.t t))
  |_=>none
 |_=>none
def zrn(P:Program)(t:TypeId):Option Nat :=
 match P.underlying t with
 |some (.int _)=>some 0
 |some .string=>some 1
 |some .bool=>some 2
 |_=>none
def zgx(P:Program):List Field->Nat->Option (List Nat)
 |[],_=>some []
 |
  f::r,i=>if f.offset=i/\f.name≠"_" then match zrn P f.type,zgx P r (i+1)with
   |some s,some l=>some (s::l)
   |_,_=>none
  else none
def zlv(P:Program)(k:TypeId):Option (Option IntKind) :=
 match P.underlying k with
 |some .string=>some none
 |some (.int q)=>some (some q)
 |_=>none
def zBO(P:Program)(t:TypeId):Option AV :=
 match P.info? t with
 |
  some i=>match i.zero with
  |some z=>cav 2 z
  |none=>none
 |none=>none
def zou(P:Program)(e:TypeId):Bool :=
 (match P.underlying e with
 |some (.int .u8)=>true
 |_=>false)&&(match P.info? e with
 |some i=>(i.size == 1)&&(i.bytes == 1)
 |none=>false)&&(match zhC P e with
 |some [.int .u8 n]=>n == 0
 |_=>false)
def cxop(P:Program)(o:Oper):Option (XOp×List AOpd) :=
 match o.op with
 |.nilCheck x=>do some (.nilck,[<-copd x])
 |
  .convert s d x=>match P.underlying s,P.underlying d with
  |some (.slice e),some (.slice _)=>if s=d/\zou P e=true then do some (.mark,[<-copd x])else none
  |some (.slice e),some .string=>if zou P e=true then do some (.b2s,[<-copd x])else none
  |some .string,some (.slice e)=>if zou P e=true then do some (.s2b,[<-copd x])else none
  |_,_=>none
 |
  .binOp op t x y _=>match P.underlying t with
  |
   some .string=>match op with
   |.eql=>do some (.seq false,[<-copd x,<-copd y])
   |.neq=>do some (.seq true,[<-copd x,<-copd y])
   |_=>none
  |
   some (.struct fs)=>match zgx P fs.toList 0 with
   |
    some ss=>if P.stoodInHeld t=false/\P.eqGuardType P.depth t=false then match op with
    |.eql=>do some (.eqs false ss,[<-copd x,<-copd y])
    |.neq=>do some (.eqs true ss,[<-copd x,<-copd y])
    |_=>none
    else none
   |none=>none
  |_=>none
 |
  .index t x i=>match P.underlying t with
  |some .string=>do some (.sidx,[<-copd x,<-copd i])
  |_=>none
 |
  .slice t x lo h m=>match lo,h,m with
  |
   none,some h,some m=>match P.underlying t with
   |
    some (.slice e)=>match P.info? e with
    |some i=>if 0<i.size then do some (.sl3 i.size,[<-copd x,<-copd h,<-copd m])else none
    |none=>none
   |_=>none
  |_,_,_=>none
 |
  .makeMap t r=>match r,P.underlying t with
  |none,some (.map _ _)=>some (.mkmap,[])
  |_,_=>none
 |
  .lookup t x k ok=>match P.underlying t with
  |
   some (.map kt et)=>match zlv P kt,zBO P et with
   |some str,some z=>do some (.mlook str ok z,[<-copd x,<-copd k])
   |_,_=>none
  |_=>none
 |
  .mapUpdate t m k v=>match P.underlying t with
  |
   some (.map kt _)=>match zlv P kt with
   |some str=>do some (.mset str,[<-copd m,<-copd k,<-copd v])
   |none=>none
  |_=>none
 |
  .call c=>match c.callee with
  |
   .builtin b=>match b,c.argTypes.toList,c.args.toList with
   |.min,[_,_],[x,y]=>do some (.min,[<-copd x,<-copd y])
   |.max,[_,_],[x,y]=>do some (.max,[<-copd x,<-copd y])
   |
    .append,[t,u],[x,y]=>match P.underlying t,P.underlying u with
    |some (.slice e),some .string=>if zou P e=true then do some (.sapp,[<-copd x,<-copd y])else none
    |_,_=>none
   |_,_,_=>none
  |_=>none
 |_=>none
def zu4(P:Program):Nat->TypeId->Option (List Nat)
 |0,_=>none
 |
  d+1,t=>match zrn P t with
  |some s=>some [s]
  |
   none=>match P.underlying t with
   |some (.struct b)=>if P.stoodInHeld t=false then zgx P b.toList 0 else none
   |
    some (.array len e)=>match zu4 P d e,P.info? e with
    |some l,some i=>if i.size=l.length then some (Wh len l).flatten else none
    |_,_=>none
   |_=>none
def zDq(P:Program)(o:Oper):Option AOp :=
 match o.op with
 |
  .range t x=>match P.underlying t with
  |some (.map _ _)=>(copd x).map λy=>.xop .mrange [y]
  |_=>none
 |.next x s=>if s=false then(copd x).map .mnext else none
 |.entry x=>(copd x).map λy=>.xop .ment [y]
 |
  .insert t m k v=>match P.underlying t with
  |
   some (.map kt _)=>match zlv P kt with
   |some str=>do some (.xop (.mset str) [<-copd m,<-copd k,<-copd v])
   |none=>none
  |_=>none
 |
  .index t x i=>match P.underlying t with
  |
   some (.array len e)=>match P.info? e,P.underlying e with
   |some g,some d=>if zdf d=true\/g.size=1 then do some (.xop (.aidx len g.size (zdf d)) [<-copd x,<-copd i])else none
   |_,_=>none
  |_=>none
 |
  .indexAddr t x i=>match P.underlying t with
  |
   some (.array len e)=>match P.info? e with
   |some g=>if 0<g.size then do some (.xop (.aaddr len g.size) [<-copd x,<-copd i])else none
   |none=>none
  |_=>none
 |
  .build t parts=>match P.underlying t,zhC P t with
  |
   some (.array _ e),some z=>match P.info? e with
   |
    some i=>do
    let h <-parts.toList.mapM λp=>do some (p.1*i.size,i.size,(<-copd p.2))
    some (.build z h)
   |none=>none
  |_,_=>none
 |
  .binOp op t x y _=>match P.underlying t with
  |
   some (.array _ _)=>match zu4 P 5 t with
   |
    some ss=>if P.eqGuardType P.depth t=false then match op with
    |.eql=>do some (.xop (.eqs false ss) [<-copd x,<-copd y])
    |.neq=>do some (.xop (.eqs true ss) [<-copd x,<-copd y])
    |_=>none
    else none
   |none=>none
  |_=>none
 |
  .call c=>match c.callee with
  |
   .builtin b=>match b,c.argTypes.toList,c.args.toList with
   |
    .len,[t],[x]=>match P.underlying t with
    |some (.map _ _)=>(copd x).map λy=>.xop .mlen [y]
    |_=>none
   |
    .cap,[t],[x]=>match P.underlying t with
    |some (.slice _)=>(copd x).map λy=>.xop .capn [y]
    |_=>none
   |
    .append,[t,u],[x,k]=>match P.underlying t,P.underlying u with
    |
     some (.slice e),some (.int _)=>match P.info? e,zhC P e with
     |some i,some z=>do some (.xop (.apz i.size i.bytes z) [<-copd x,<-copd k])
     |_,_=>none
    |_,_=>none
   |
    .delete,[t,_],[x,k]=>match P.underlying t with
    |
     some (.map kt _)=>match zlv P kt with
     |some str=>do some (.xop (.mdel str) [<-copd x,<-copd k])
     |none=>none
    |_=>none
   |_,_,_=>none
  |_=>none
 |_=>none
def cyop(P:Program)(o:Oper):Option AOp :=
 match zDq P o with
 |some a=>some a
 |none=>some (.xop .nope [])
def cop(P:Program)(o:Oper):Option AOp :=
 match cop0 P o with
 |some a=>some a
 |
  none=>match cxop P o with
  |some p=>some (.xop p.1 p.2)
  |none=>cyop P o
def zHa(b:Nat):Option Nat->Bool
 |none=>true
 |some d=>d<b
def zFa(P:Program)(c:Nat)(ops:Array Oper)(o:Oper):Option AOper :=
 if zHa c o.dst then
  match cop P o with
  |
   some a=>match o.guard with
   |none=>some ⟨o.dst,a,none⟩
   |
    some (j,b)=>match (ops[j]?).bind (·.dst)with
    |some t=>some ⟨o.dst,a,some (t,b)⟩
    |none=>none
  |none=>none
 else none
def AOp.pure:AOp->Bool
 |.rbox _ |.rbuildSl ..=>true
 |.mov _ |.pick .. |.load .. |.idx .. |.fldaddr .. |.fld .. |.len .. |.slen .. |.bin .. |.eqb .. |.un .. |.conv .. |.build .. |.slice .. |.cut .. |.mkfn .. |.ext ..=>true
 |.xop x _=>x.pure
 |_=>false
def AOp.reads:AOp->Bool
 |.load .. |.idx .. |.slice ..=>true
 |.xop x _=>x.reads
 |_=>false
def AOpd.tmps:AOpd->List Nat
 |.t n=>[n]
 |.c _=>[]
def AOp.tmps:AOp->List Nat
 |.mov x=>x.tmps
 |.mknil _=>[]
 |.pick c a b=>c.tmps++a.tmps++b.tmps
 |.load _ _ p=>p.tmps
 |.store _ p v=>p.tmps++v.tmps
 |.idx _ x i=>x.tmps++i.tmps
 |.fldaddr _ _ x=>x.tmps
 |.fld _ _ _ x=>x.tmps
 |.len x=>x.tmps
 |.slen x=>x.tmps
 |.bin _ x y=>x.tmps++y.tmps
 |.eqb _ x y=>x.tmps++y.tmps
 |.un _ x=>x.tmps
 |.conv _ x=>x.tmps
 |.build _ d=>d.flatMap (·.2.2.tmps)
 |.buildSl _ _ _ d=>d.flatMap (·.2.tmps)
 |.box x=>x.tmps
 |.rbox x=>x.tmps
 |.rbuildSl _ _ _ d=>d.flatMap (·.2.tmps)
 |.mnext x=>x.tmps
 |.alloc _=>[]
 |.mksl _ _ _ l c=>l.tmps++c.tmps
 |.slice _ x h g=>x.tmps++(match h with|none=>[]|some y=>y.tmps)++(match g with|none=>[]|some y=>y.tmps)
 |.cut x=>x.tmps
 |.mkfn _ e=>e.flatMap (·.tmps)
 |.append _ _ x y=>x.tmps++y.tmps
 |.append2 _ _ x y=>x.tmps++y.tmps
 |.clear _ _ x=>x.tmps
 |.ext _ x=>x.tmps
 |.isnil _ _ x=>x.tmps
 |.call _ xs=>xs.flatMap (·.tmps)
 |.callq _ xs=>xs.flatMap (·.tmps)
 |.callv f xs=>f.tmps++xs.flatMap (·.tmps)
 |.xop _ xs=>xs.flatMap (·.tmps)
def AOper.looks(o:AOper):List Nat:=(match o.guard with|none=>[]|some (t,_)=>[t])++o.op.tmps
def AOper.fixed(o:AOper):Bool:=o.op.pure||(match o.op with |.callq ..=>true|_=>false)
def AOper.sees(o:AOper):Bool:=o.op.reads||(match o.op with |.callq ..=>true|_=>false)
def AOper.apart(x y:AOper):Bool :=
 (match x.dst with|none=>true|some d=> !(memN y.looks d)&&(match y.dst with|none=>true|some b=> !(Wa d b))) &&
 (match y.dst with|none=>true|some d=> !(memN x.looks d)) &&
 (y.fixed || !x.sees)
def zdF(o:Oper):List Nat:=(o.after.toList.filter (Region.binds .any)).map (·.on)
def getB(l:List Bool)(i:Nat):Bool:=l.getD i false
def zbQ(c:List (List Nat))(b:List Bool)(i:Nat):Bool := !(getB b i)&&(c.getD i []).all (getB b)
def zG6(ops:List AOper)(c:List (List Nat))(b:List Bool)(i:Nat):Bool :=
 (ops.getD i default).fixed&&(Wj ops.length).all λj=>Wa i j||getB b j||memN (c.getD j []) i||(ops.getD i default).apart (ops.getD j default)
def zcQ(ops:List AOper)(b:List (List Nat)):Nat->List Bool->DTree
 |0,_=>.done
 |
  fuel+1,listed=>
  match (Wj ops.length).filter (zbQ b listed)with
  |[]=>.done
  |
   r=>match r.find? (zG6 ops b listed)with
   |some i=>.step (ops.getD i default) (zcQ ops b fuel (listed.set i true))
   |none=>zI7 (r.map λi=>(ops.getD i default,zcQ ops b fuel (listed.set i true)))
def AOper.quiet(o:AOper):AOper :=
 match o.op with
 |.call f b=>{ o with op:=.callq f b }
 |_=>o
def zgF(q:List Nat):Nat->List AOper->List AOper
 |_,[]=>[]
 |k,o::r=>(bif memN q k then o.quiet else o)::zgF q (k+1) r
def AOper.ro(l:List Nat)(o:AOper):AOper :=
 match o.op,o.dst with
 |.box x,some d=>bif memN l d then { o with op:=.rbox x }else o
 |.buildSl c len z e,some d=>bif memN l d then { o with op:=.rbuildSl c len z e }else o
 |.append c b x y,some d=>bif memN l (d+1000)then { o with op:=.append2 c b x y }else o
 |_,_=>o
def zrz:ACode->Option Nat
 |.goto l=>some l
 |
  .seq a b=>match zrz a with
  |some l=>some l
  |none=>zrz b
 |
  .cond _ a b=>match zrz a with
  |some l=>some l
  |none=>zrz b
 |.block _ c=>zrz c
 |.loop c=>zrz c
 |.scope c=>zrz c
 |_=>none
def zrU:ACode->Nat->Option ACode
 |
  .seq a b,l=>match zrU a l with
  |some r=>some (.seq r b)
  |none=>zrU b l
 |.label c,l=>bif Wa c l then some .skip else none
 |_,_=>none
def zzv(a:ACode):Option ACode:=match zrz a with
 |none=>some (.scope a)
 |
  some l=>match zrU a l with
  |some b=>some (.jump l a b)
  |none=>none
def ziS:Code->Bool
 |
  .region _ ops _=>ops.toList.all λo=>match o.op with
  |.defer _=>false
  |_=>true
 |.seq a b=>ziS a&&ziS b
 |.cond _ a b=>ziS a&&ziS b
 |.block _ c=>ziS c
 |.loop c=>ziS c
 |.scope _=>false
 |.rangeFunc ..=>false
 |_=>true
def comp(P:Program)(d:Nat)(q:Nat->List Nat):Code->Option ACode
 |.skip=>some .skip
 |
  .region id ops draw=>
  match ops.toList.mapM (zFa P d ops)with
  |
   some asv=>if draw then
    (
     let k:=(zgF (q id) 0 asv).map (AOper.ro (q 999999))
     let e:=ops.toList.map zdF
     if P.follows .mixedOrders&&(Wj ops.size).all (λj=>(e.getD j []).all λi=>Nat.blt i j)then some (.draw (zcQ k e ops.size (Wh ops.size false)) [])else none)
   else some (.region (asv.map (AOper.ro (q 999999))) [])
  |none=>none
 |.seq a b=>do some (.seq (<-comp P d q a) (<-comp P d q b))
 |.cond c a b=>do some (.cond (<-copd c) (<-comp P d q a) (<-comp P d q b))
 |.block id c=>do some (.block id (<-comp P d q c))
 |.loop c=>do some (.loop (<-comp P d q c))
 |.exit id=>some (.exit id)
 |.ret=>some .ret
 |.scope c=>(comp P d q c).bind zzv
 |.label l=>some (.label l)
 |.goto l=>some (.goto l)
 |.rangeFunc g h a b=>if ziS a&&ziS b&&h.toList.all (λt=>Nat.blt t d)then do some (.range (<-copd g) h.toList (<-comp P d q a) (<-comp P d q b))else none
 |_=>none
section
variable {P:Program}{w:World}{L:Nat->Prop}{ι:Inj}{H:AH}{nx:Nat}{M:Nat->Prop}
theorem zfG(k)(e):InR k (k.wrap e):=by have:=wf_wrap k e;simpa [Lit.wf,InR]using this
theorem zhG{n}(b : -9223372036854775808<=n)(c:n<=9223372036854775807):InR .i64 n:=by simp only[InR,IntKind.min,IntKind.max,IntKind.signed,IntKind.bits,if_true];exact⟨by omega,by omega⟩
theorem zjR.mapM_len{α β:Type}(f):∀(l:List α)(r:List β),l.mapM f=some r->r.length=l.length
 |[],r,h=>by simp at h;subst h;rfl
 |
  x::l,r,h=>by
  simp only[WN,WO,WP,WQ,Wn]at h;obtain⟨b,_,d,c,rfl⟩:=h;simp[zjR.mapM_len f l d c]
theorem zjR.mapM_get{α β:Type}(f):∀(l:List α)(r:List β),l.mapM f=some r->∀(i:Nat)(x:α)(y:β),l[i]?=some x->r[i]?=some y->f x=some y
 |[],r,h,i,x,y,c,_=>by simp at c
 |
  a::l,r,h,i,x,y,c,hy=>by
  simp only[WN,WO,WP,WQ,Wn]at h;obtain⟨b,g,e,d,rfl⟩:=h
  cases i with
  |zero=>simp at c hy;subst c;subst hy;exact g
  |succ i=>exact zjR.mapM_get f l e d i x y (by simpa using c) (by simpa using hy)
theorem zjR:∀(d:Nat)(v:Value)(a:AV),cav d v=some a->VR w M ι v a
 |
  d,.int k n,a,h=>by
  unfold cav at h;split at h
  .rename_i g;cases h;exact .int _ _ _ g
  .cases h
 |d,.bool b,a,h=>by unfold cav at h;cases h;exact .bool _ _
 |
  d,.string s,a,h=>by
  unfold cav at h;split at h
  .rename_i g;cases h;exact .str _ _ g
  .cases h
 |d,.pointer none,a,h=>by unfold cav at h;cases h;exact .nilp _
 |d,.pointer (some x),a,h=>by unfold cav at h;cases h
 |d,.slice none 0 0,a,h=>by unfold cav at h;cases h;exact .nilsl _
 |d,.slice none 0 (c+1),a,h=>by unfold cav at h;cases h
 |d,.slice none (n+1) c,a,h=>by unfold cav at h;cases h
 |d,.slice (some x) n c,a,h=>by unfold cav at h;cases h
 |d,.nilFunc,a,h=>by unfold cav at h;cases h;exact .nilfn _
 |0,.agg m,a,h=>by unfold cav at h;cases h
 |
  d+1,.agg m,a,h=>by
  unfold cav at h;split at h
  .rename_i p;obtain⟨l,o,rfl⟩:=Wo.1 h;have e:=zjR.mapM_len _ _ _ o;refine .agg _ m l (by rw[e];simp) (λi v j=>?_) (λi v a j q=>?_)
   .exact(WZ.1 p) v (W0 j)
   .have:=zjR.mapM_get _ _ _ o i v a (by simpa using j) q;exact zjR d v a this
  .cases h
 |d,.float k b,a,h=>by unfold cav at h;cases h
 |d,.complex k x y,a,h=>by unfold cav at h;cases h
 |d,.map none,a,h=>by unfold cav at h;cases h;exact .nilmp _
 |d,.map (some r),a,h=>by unfold cav at h;cases h
 |d,.chan r,a,h=>by unfold cav at h;cases h
 |d,.func f x y,a,h=>by unfold cav at h;cases h
 |d,.iface t v,a,h=>by unfold cav at h;cases h
 |d,.nilIface,a,h=>by unfold cav at h;cases h
 |d,.tuple u,a,h=>by unfold cav at h;cases h
def KOk(w:World)(M:Nat->Prop)(ι:Inj)(tmps:Array Value)(K:Nat->AV):Prop:=∀i,VR w M ι (tmps.getD i undef) (K i)
theorem zt{a:Act}{K}(e:KOk w M ι a.tmps K){x}{y}(h:copd x=some y):VR w M ι (a.eval x) (ev K y):=by
 cases x with
 |tmp t=>simp only[copd,Wn]at h;subst h;exact e t
 |const v=>simp only[copd]at h;obtain⟨c,d,rfl⟩:=Wo.1 h;exact zjR 2 v c d
 |global g=>simp[copd]at h
 |func f=>simp only[copd,Wn]at h;subst h;exact .fn _ _ _ _ rfl (λi v a b _=>by simp at b)
theorem VR.cells{v}{a}(h:VR w M ι v a)(F:a.solid=true):
  v.cells.size=a.cells.length/\(∀(i:Nat)(u:Value),v.cells[i]?=some u->u.oneCell'=true)/\(∀(i:Nat)(u:Value)(b:AV),v.cells[i]?=some u->a.cells[i]?=some b->VR w M ι u b):=by
 have one:∀(v:Value)(a:AV),v.cells=#[v]->a.cells=[a]->v.oneCell'=true->VR w M ι v a ->
   v.cells.size=a.cells.length/\(∀(i:Nat)(u:Value),v.cells[i]?=some u->u.oneCell'=true)/\(∀(i:Nat)(u:Value)(b:AV),v.cells[i]?=some u->a.cells[i]?=some b->VR w M ι u b):=by
  intro v a d j x y;rw[d,j];refine⟨rfl,λi u e=>?_,λi u b e t=>?_⟩
  .cases i with
   |zero=>simp at e;subst e;exact x
   |succ i=>simp at e
  .cases i with
   |zero=>simp at e t;subst e;subst t;exact y
   |succ i=>simp at e
 cases h with
 |undef=>simp[AV.solid]at F
 |tup=>simp[AV.solid]at F
 |agg _ K J C d p=>exact⟨C,d,p⟩
 |int _ k n B=>exact one _ _ rfl rfl rfl (.int _ _ _ B)
 |bool _ b=>exact one _ _ rfl rfl rfl (.bool _ _)
 |str _ s B=>exact one _ _ rfl rfl rfl (.str _ _ B)
 |nilp=>exact one _ _ rfl rfl rfl (.nilp _)
 |ptr _ r q g i f l m o=>exact one _ _ rfl rfl rfl (.ptr _ _ _ _ _ _ _ m o)
 |mp _ r q l m o=>exact one _ _ rfl rfl rfl (.mp _ _ _ _ m o)
 |nilmp=>exact one _ _ rfl rfl rfl (.nilmp _)
 |it _ r l m o=>exact one _ _ rfl rfl rfl (.it _ _ _ m o)
 |iptr _ a n c V A z p=>exact one _ _ rfl rfl rfl (.iptr _ a n c V A z p)
 |sl _ a I n cap f V O t A z p=>exact one _ _ rfl rfl rfl (.sl _ a I n cap f V O t A z p)
 |sl0 _ I f=>exact one _ _ rfl rfl rfl (.sl0 _ _ _)
 |nilsl=>exact one _ _ rfl rfl rfl (.nilsl _)
 |cut _ a=>exact one _ _ rfl rfl rfl (.cut _ _)
 |own _ r q g off n a c l d j x y N=>exact one _ _ rfl rfl rfl (.own _ _ _ _ _ _ _ _ l d j x y N)
 |fn _ f K D d j=>exact one _ _ rfl rfl rfl (.fn _ _ _ _ d j)
 |nilfn=>exact one _ _ rfl rfl rfl (.nilfn _)
theorem VR.wf{v}{a}(h:VR w M ι v a):a.wf:=by cases h<;>simp only[AV.wf]<;>first|assumption|trivial|(exact Wr _)
theorem zfS{t}{d:TypeDesc}(h:P.underlying t=some d)(w):(isAgg t).run P w=.ok (zdf d) w:=by unfold isAgg;rw[Xa,run_underlying h w];cases d<;>rfl
theorem zmZ{t}{d:TypeDesc}{i:TypeInfo}(h:P.underlying t=some d)(hd:zdf d=true)(e:P.info? t=some i)(a:Addr)(b:List Value)(g:b.length=i.size)(c:∀(j:Nat) v,b[j]?=some v->w.cell? (a.add j)=some v):(loadVar t a).run P w=.ok (.agg b.toArray) w:=by
 have:=run_loadCells_list (P:=P) w a b c;simp[loadVar,Xa,zfS h,hd,sizeOf,typeInfo,e,<-g,this]
theorem zmO{t}{d:TypeDesc}(c:P.underlying t=some d)(hd:zdf d=false)(a:Addr)(v)(b:w.cell? a=some v):(loadVar t a).run P w=.ok v w:=by simp[loadVar,Xa,zfS c,hd,b]
theorem add_mid(b o j):(⟨b,o,none⟩:Addr).add j=⟨b,o+j,none⟩:=Addr.add_mid b o j
theorem add0(a:Addr):a.add 0=a:=by simp[Xg]
theorem zzF(c):∀(n k j:Nat),(tab c n k)[j]?=if j<n then some (c (k+j))else none
 |0,k,j=>by simp[tab]
 |n+1,k,0=>by simp[tab]
 |
  n+1,k,j+1=>by
  simp only[tab,W3,zzF c n (k+1) j];by_cases h:j<n
  .rw[if_pos h,if_pos (by omega)];congr 2;omega
  .rw[if_neg h,if_neg (by omega)]
theorem zqC(c):∀(n k:Nat),(tab c n k).length=n
 |0,_=>rfl
 |n+1,k=>by simp[tab,zqC c n (k+1)]
theorem zqI{n:Nat}{V:Nat->Value}{i:Nat}{v:Value}(h:(((Wj n).map V).toArray)[i]?=some v):i<n/\V i=v:=by rw[WR,Wx]at h;obtain⟨k,c,rfl⟩:=Wo.1 h;obtain⟨b,rfl⟩:=Wf.1 c;simp at b⊢;exact b
theorem zoT{n:Nat}{V:Nat->Value}{i:Nat}{v:Value}(h:((Wj n).map V)[i]?=some v):i<n/\V i=v:=zqI (by rw[WR];exact h)
theorem VR.aggOf{n}{asv}(V)(k:asv.length=n)(h:∀j,j<n->(V j).oneCell'=true/\∃a,asv[j]?=some a/\VR w M ι (V j) a):
  VR w M ι (.agg ((Wj n).map V).toArray) (.agg asv):=by
 refine .agg _ _ _ (by simp[k]) (λi v c=>?_) (λi v a c d=>?_)
 .obtain⟨b,rfl⟩:=zqI c;exact(h i b).1
 .obtain⟨b,rfl⟩:=zqI c;obtain⟨_,m,e,g⟩:=h i b;rw[e]at d;cases d;exact g
theorem zAB{v}{a}(h:VR w M noI v a)(ι):VR w M ι v a:=h.mono (λ_ _ b=>⟨rfl,b⟩) (λ_ _ _ _ h=>by cases h)
theorem RowOk.cell{Lt'}{b}{els}{l}(ok:RowOk w Lt' ι b els l)(m:l.cap<=maxLen){i}(k:i<els.length){j}(o:j<b):
  ∃v a,(els.getD i [])[j]?=some a/\w.cell? ⟨l.block,l.off+i*b+j,none⟩=some v/\v.oneCell'=true/\VR w Lt' ι v a:=by
 have c:els[i]?=some (els.getD i []):=by simp[Wl,Wd k]
 have n:=ok.wide i _ c;have d:(els.getD i [])[j]?=some ((els.getD i [])[j]'(by omega)):=Wd _;obtain⟨v,e,g,h⟩:=ok.holds m i _ j _ c d;exact⟨v,_,d,e,g,h⟩
theorem zzq(l)(f n j)(h:j<n):(sub l f n)[j]?=l[f+j]? := by simp[sub,WE,h,WF]
theorem zqD(l)(f n)(h:f+n<=l.length):(sub l f n).length=n:=by simp[sub];omega
theorem zvF{t:TypeId}{d:TypeDesc}{i:TypeInfo}(O:P.underlying t=some d)(X:P.info? t=some i)(rel:RelH w L ι H nx){Y:Value}{p:AV}(Z:VR w (Lt L ι H) ι Y p){n:Nat}(u:n=if zdf d then i.size else 1)(y:(zd5 (zdf d) n p H nx).side) :
  ∃v,(Xi t Y).run P w=.ok v w/\VR w (Lt L ι H) ι v (zd5 (zdf d) n p H nx).v/\(zd5 (zdf d) n p H nx).H=H/\(zd5 (zdf d) n p H nx).nx=nx/\(zd5 (zdf d) n p H nx).fact:=by
 cases Z with
 |ptr _ r q g k f l hl hm=>
  cases N:H.get r q with
  |none=>simp[zd5,N,bad]at y
  |some o=>
   cases o with
   |fam J ins=>simp[zd5,N,bad]at y
   |row J els g'=>
    simp only[zd5,N]at y⊢;obtain⟨rfl,S,hf⟩:=y;obtain⟨l',B,ok⟩:=rel.row r q J els g N;rw[hl]at B;cases B;have D:=ok.hsz;have T:=ok.wide k (els.getD k []) (by simp[Wl,Wd S])
    cases hd:zdf d with
    |false=>
     simp only[hd,if_false,WS]at u;subst u;obtain⟨v,a,x,s,K,b⟩:=ok.cell hm S (j:=f) (by omega);rw[<-D]at s;have e:(els.getD k []).getD f .undef=a:=by rw[W5,x];rfl
     simp only[cond_false,e];refine⟨v,?_,b,trivial,trivial,b.wf⟩;simp[Xi,Xe,zmO O hd _ v s]
    |true=>
     simp only[hd,if_true]at u;have z:∀j,j<n->∃v,w.cell? ⟨l.block,l.off+k*J+(f+j),none⟩=some v/\v.oneCell'=true/\∃a,(els.getD k [])[f+j]?=some a/\VR w (Lt L ι H) ι v a:=λj h=>by obtain⟨v,a,x,s,K,b⟩:=ok.cell hm S (j:=f+j) (by omega);exact⟨v,s,K,a,x,b⟩
     obtain⟨V,W⟩:=XJ (α:=Value) z
     have F:VR w (Lt L ι H) ι (.agg ((Wj n).map V).toArray) (.agg (sub (els.getD k []) f n)) :=
      .aggOf V (zqD _ _ _ (by omega)) (λj h=>by
       obtain⟨x,s,a,K,b⟩:=W j h
       exact⟨s,a,by rw[zzq _ _ _ _ h];exact K,b⟩)
     have C:(Xi t (.pointer (some ⟨l.block,l.off+k*l.sz+f,none⟩))).run P w=.ok (.agg ((Wj n).map V).toArray) w:=by simp only[Xi,Xe,Xa,Xx,Xy];refine zmZ O hd X _ _ (by simp[u]) (λj v h=>?_);obtain⟨A,rfl⟩:=zoT h;rw[add_mid,D,Ws];exact(W j A).1
     have e:(bif Wa f 0&&Wa n J then els.getD k []else sub (els.getD k []) f n)=sub (els.getD k []) f n:=by
      cases Q:Wa f 0&&Wa n J with
      |false=>rfl
      |true=>simp only[WA]at Q;have x:=zm Q.1;have s:=zm Q.2;subst x;subst s;simp only[cond_true,sub,List.drop_zero];rw[List.take_of_length_le (by omega)]
     simp only[cond_true,e];exact⟨_,C,F,trivial,trivial,F.wf⟩
 |iptr _ a m c V R hL F=>
  simp only[zd5]at y⊢
  cases hd:zdf d with
  |false=>simp only[hd,if_false,WS]at u;subst u;have U:=R 0 (by omega);rw[add0]at U;simp only[cond_false];have b:=zAB (F 0 (by omega)) ι;refine⟨V 0,?_,b,trivial,trivial,b.wf⟩;simp[Xi,Xe,zmO O hd _ _ U.1]
  |true=>
   simp only[hd,if_true]at u
   have I:VR w (Lt L ι H) ι (.agg ((Wj n).map V).toArray) (.agg (tab c n 0)) :=
    .aggOf V (zqC _ _ _) (λj h=>⟨(R j (by omega)).2,c j,by rw[zzF,if_pos h,Wp],zAB (F j (by omega)) ι⟩)
   simp only[cond_true];refine⟨_,?_,I,trivial,trivial,I.wf⟩;simp only[Xi,Xe,Xa,Xx,Xy];refine zmZ O hd X _ _ (by simp[u]) (λj v h=>?_);obtain⟨A,rfl⟩:=zoT h;exact(R j (by omega)).1
 |_=>simp[zd5,bad]at y
end
def zaR(P:Program)(w:World)(L:Nat->Prop)(ι:Inj)(H:AH)(nx:Nat)(s:Sem Value)(r:ORes):Prop :=
 ∃v,s.run P w=.ok v w/\VR w (Lt L ι H) ι v r.v/\r.H=H/\r.nx=nx/\r.fact
section
variable {P:Program}{w:World}{L:Nat->Prop}{ι:Inj}{H:AH}{nx:Nat}{M:Nat->Prop}
theorem zsK{t e}{b:TypeInfo}(h:P.underlying t=some (.slice e))(g:P.info? e=some b)(a:Addr)(len cap:Nat)(k)(i:Int)(c:0<=i)(d:i<len):
  (Xz t (.slice (some a) len cap) (.int k i)).run P w=.ok (.pointer (some (a.add (i.toNat*b.size)))) w:=by
 simp[Xz,asIntOf,run_underlying h,sizeOf,typeInfo,g,c,d]
theorem zKJ{t e}{d:TypeInfo}(D:P.underlying t=some (.slice e))(C:P.info? e=some d)(u:0<d.size)(rel:RelH w L ι H nx){xv iv}{x i}(F:VR w (Lt L ι H) ι xv x)(A:VR w (Lt L ι H) ι iv i)(b:(idxR d.size x i H nx).side):zaR P w L ι H nx (Xz t xv iv) (idxR d.size x i H nx):=by
 cases F with
 |sl _ a B n cap f V hn hb hc hL hvv=>
  cases A with
  |int _ k j hj=>
   simp only[idxR]at b⊢;obtain⟨rfl,h,m⟩:=b;refine⟨_,zsK D C a n cap k j h m,?_,rfl,rfl,trivial⟩;have p:j.toNat<n:=by omega
   refine .iptr _ _ _ _ (V j.toNat) (λq y=>hc _ _ p y) (λ_=>by rw[zcP];exact hL (Wk (by omega) u)) (λq y=>hvv _ _ p y)
  |_=>simp[idxR,bad]at b
 |sl0 _ B f=>
  cases A with
  |int _ k j hj=>simp only[idxR]at b;obtain⟨_,h,m⟩:=b;exact absurd (Int.lt_of_le_of_lt h m) (by simp)
  |_=>simp[idxR,bad]at b
 |own _ r q g off n a c l hl hm hn hc ha=>
  cases A with
  |int _ k j hj=>
   cases v:H.get r q with
   |none=>simp[idxR,v,bad]at b
   |some o=>
    cases o with
    |fam B I=>simp[idxR,v,bad]at b
    |row B els g'=>
     simp only[idxR,v]at b⊢;obtain⟨rfl,rfl,h,m⟩:=b;obtain⟨J,s,ok⟩:=rel.row _ _ _ _ _ v;rw[hl]at s;cases s;have z:=ok.hsz;rw[ha (by omega)];refine⟨_,zsK D C _ n c k j h m,?_,rfl,rfl,trivial⟩;rw[add_mid,<-z];have e:l.off+off*l.sz+j.toNat*l.sz=l.off+(off+j.toNat)*l.sz+0:=by rw[We];omega
     rw[e];exact .ptr _ r q g _ 0 l hl hm
  |_=>simp[idxR,bad]at b
 |_=>cases i<;>simp[idxR,bad]at b
theorem zti{s}{c:Array Field}{fd:Field}{b:TypeInfo}{f}(h:P.underlying s=some (.struct c))(e:c[f]?=some fd)(g:P.info? fd.type=some b)(d:0<b.size)(a:Addr):
  (XA s (.pointer (some a)) f).run P w=.ok (.pointer (some (a.add fd.offset))) w:=by
 have:¬b.size=0:=by omega
 simp[XA,Xe,run_underlying h,e,fieldPlace,sizeOf,typeInfo,g,this]
theorem zAC{s}{e:Array Field}{fd:Field}{b:TypeInfo}{f}(p:P.underlying s=some (.struct e))(h:e[f]?=some fd)(m:P.info? fd.type=some b)(d:0<b.size){xv}{x}(u:VR w (Lt L ι H) ι xv x)(o:(zcO fd.offset b.size x H nx).side):zaR P w L ι H nx (XA s xv f) (zcO fd.offset b.size x H nx):=by
 cases u with
 |ptr _ r q g i k l hl hm=>simp only[zcO];refine⟨_,zti p h m d _,?_,rfl,rfl,trivial⟩;rw[add_mid,Ws];exact .ptr _ r q g i _ l hl hm
 |iptr _ a n c V hc hL hv=>simp only[zcO]at o⊢;refine⟨_,zti p h m d _,?_,rfl,rfl,trivial⟩;refine .iptr _ _ _ _ (λj=>V (fd.offset+j)) (λj t=>?_) (λ_=>by rw[zcP];exact hL (by omega)) (λj t=>hv _ (by omega));rw[Xk];exact hc _ (by omega)
 |_=>simp[zcO,bad]at o
theorem ziX(c:Array Value)(a b j:Nat)(h:j<b-a)(d:b<=c.size):(c.extract a b)[j]?=c[a+j]? := by rw[Array.getElem?_extract];simp[h];omega
theorem zGK{s}{o:Array Field}{fd:Field}{b:TypeInfo}{d:TypeDesc}{f}(u:P.underlying s=some (.struct o))(t:o[f]?=some fd)(z:P.info? fd.type=some b)(hd:P.underlying fd.type=some d){xv}{x}(A:VR w (Lt L ι H) ι xv x){n}(j:n=if zdf d then b.size else 1)(m:(fldR fd.offset n (zdf d) x H nx).side):zaR P w L ι H nx (XB s xv f) (fldR fd.offset n (zdf d) x H nx):=by
 cases A with
 |agg _ cs asv hsz h1 hv=>
  simp only[fldR]at m⊢
  cases k:zdf d with
  |true=>
   simp only[k,if_true]at j;subst j
   have g:VR w (Lt L ι H) ι (.agg (cs.extract fd.offset (fd.offset+b.size))) (.agg (sub asv fd.offset b.size)):=by
    have e:(cs.extract fd.offset (fd.offset+b.size)).size=b.size:=by simp;omega
    refine .agg _ _ _ (by rw[e,zqD _ _ _ m]) (λi v c=>?_) (λi v a c q=>?_)
    .have h:i<b.size:=by rw[<-e];exact(W6.1 c).1
     rw[ziX _ _ _ _ (by omega) (by omega)]at c;exact h1 _ _ c
    .have h:i<b.size:=by rw[<-e];exact(W6.1 c).1
     rw[ziX _ _ _ _ (by omega) (by omega)]at c;rw[zzq _ _ _ _ h]at q;exact hv _ _ _ c q
   simp only[cond_true];refine⟨_,?_,g,rfl,rfl,g.wf⟩;simp[XB,run_underlying u,t,asAgg,part,zfS hd,k,sizeOf,typeInfo,z]
  |false=>
   simp only[k,if_false,WS]at j;subst j;have h:fd.offset<cs.size:=by omega
   have p:cs[fd.offset]?=some cs[fd.offset]:=Wg h;have y:asv[fd.offset]?=some (asv.getD fd.offset .undef):=by simp[Wl,Wd (show fd.offset<asv.length by omega)]
   have g:=hv _ _ _ p y;simp only[cond_false];refine⟨_,?_,g,rfl,rfl,g.wf⟩;simp[XB,run_underlying u,t,asAgg,part,zfS hd,k,p]
 |_=>simp[fldR,bad]at m
theorem zkS{t e ty}(b:P.underlying t=some (.slice e))(a:Option Addr)(n c):(Xl #[t] ty #[.slice a n c]).run P w=.ok (.int .i64 n) w:=by simp[Xl,run_underlying b,goInt]
theorem zKq{t e ty}{xv}{x}(b:P.underlying t=some (.slice e))(m:VR w (Lt L ι H) ι xv x)(k:(lenR x H nx).side):zaR P w L ι H nx (Xl #[t] ty #[xv]) (lenR x H nx):=by
 cases m with
 |sl _ a o n cap f V j d h p s=>exact⟨_,zkS b _ _ _,.int _ _ _ (zhG (by omega) (by unfold big at d;omega)),rfl,rfl,d⟩
 |sl0 _ o f=>exact⟨_,zkS b _ _ _,.int _ _ _ (zhG (by omega) (by omega)),rfl,rfl,Wr _⟩
 |own _ r q g off n a c l hl hm j h ha=>
  have d:n<=9223372036854775807:=by unfold maxLen at hm;omega
  exact⟨_,zkS b _ _ _,.int _ _ _ (zhG (by omega) (by omega)),rfl,rfl,d⟩
 |nilsl _=>exact⟨_,zkS b _ _ _,.int _ _ _ (zhG (by omega) (by omega)),rfl,rfl,trivial⟩
 |cut _ a=>exact⟨_,zkS b _ _ _,.int _ _ _ (zhG (by omega) (by omega)),rfl,rfl,trivial⟩
 |_=>simp[lenR,bad]at k
theorem zGV{t ty}{xv}{x}(d:P.underlying t=some .string)(e:VR w (Lt L ι H) ι xv x)(c:(zte x H nx).side):zaR P w L ι H nx (Xl #[t] ty #[xv]) (zte x H nx):=by
 cases e with
 |str _ s b=>refine⟨.int .i64 s.size,?_,.int _ _ _ (zhG (by omega) (by unfold big at b;omega)),rfl,rfl,b⟩;simp[Xl,run_underlying d,goInt]
 |_=>simp[zte,bad]at c
theorem zIh{k}{a b}(d:InR k a)(n:b≠0):InR k (a.tmod b):=by
 have c:0<=a->0<=a.tmod b:=λh=>Int.tmod_nonneg b h
 have g:(a.tmod b).natAbs<=a.natAbs:=by rw[Int.natAbs_tmod];exact Nat.mod_le _ _
 have j:a<=0->a.tmod b<=0:=λh=>by have:=Int.tmod_nonneg (a := -a) b (by omega);rw[Int.neg_tmod]at this;omega
 have m:=c;generalize a.tmod b=e at *;unfold InR at *;cases k<;>simp[IntKind.min,IntKind.max,IntKind.signed,IntKind.bits]at d⊢<;>omega
theorem zGP{k}{a}{n}(m:InR k a):InR k (a.fdiv (2 ^ n)):=by
 have b:(0:Int)<2 ^ n:=Int.pow_pos (by omega);have c:a.fdiv (2 ^ n)=a / 2 ^ n:=Int.fdiv_eq_ediv_of_nonneg _ (by omega);rw[c];have d:0<=a->a / 2 ^ n<=a:=λh=>Int.ediv_le_self _ h
 have e:0<=a->0<=a / 2 ^ n:=λh=>Int.ediv_nonneg h (by omega)
 have g:a<0->a<=a / 2 ^ n:=λh=>by rw[Int.le_ediv_iff_mul_le b];have:a*2 ^ n<=a*1:=Int.mul_le_mul_of_nonpos_left (by omega) (by omega);omega
 have j:a<0->a / 2 ^ n<0:=λh=>Int.ediv_neg_of_neg_of_pos h b
 unfold InR at *;cases k<;>simp[IntKind.min,IntKind.max,IntKind.signed,IntKind.bits]at *<;>omega
theorem zKv{t}{op}{x y}{xv yv}{a b}(h:VR w (Lt L ι H) ι xv a)(j:VR w (Lt L ι H) ι yv b)(d:(binI op a b H nx).side):
  zaR P w L ι H nx (do eqGuard op t x y xv yv;binOp op t xv yv) (binI op a b H nx):=by
 cases h with
 |int _ k m g=>
  cases j with
  |int _ k' n hn=>
   have c:∀w:World,(eqGuard op t x y (.int k m) (.int k' n)).run P w=.ok () w:=λw=>by cases op<;>simp[eqGuard]
   cases op;case add=>simp only[binI]at d⊢;subst d;exact⟨_,by simp[Xa,c,binOp,Xq],.int _ _ _ (zfG _ _),rfl,rfl,trivial⟩
   case sub=>simp only[binI]at d⊢;subst d;exact⟨_,by simp[Xa,c,binOp,Xq],.int _ _ _ (zfG _ _),rfl,rfl,trivial⟩
   case mul=>simp only[binI]at d⊢;subst d;exact⟨_,by simp[Xa,c,binOp,Xq],.int _ _ _ (zfG _ _),rfl,rfl,trivial⟩
   case quo=>simp only[binI]at d⊢;obtain⟨rfl,e⟩:=d;exact⟨_,by simp[Xa,c,binOp,XK,e],.int _ _ _ (zfG _ _),rfl,rfl,trivial⟩
   case rem=>simp only[binI]at d⊢;obtain⟨rfl,e⟩:=d;exact⟨_,by simp[Xa,c,binOp,XK,e],.int _ _ _ (zIh g e),rfl,rfl,trivial⟩
   case and=>simp only[binI]at d⊢;subst d;exact⟨_,by simp[Xa,c,binOp,Xr],.int _ _ _ (zfG _ _),rfl,rfl,trivial⟩
   case or=>simp only[binI]at d⊢;subst d;exact⟨_,by simp[Xa,c,binOp,Xr],.int _ _ _ (zfG _ _),rfl,rfl,trivial⟩
   case xor=>simp only[binI]at d⊢;subst d;exact⟨_,by simp[Xa,c,binOp,Xr],.int _ _ _ (zfG _ _),rfl,rfl,trivial⟩
   case andNot=>simp only[binI]at d⊢;subst d;exact⟨_,by simp[Xa,c,binOp,Xr],.int _ _ _ (zfG _ _),rfl,rfl,trivial⟩
   case shl=>
         simp only[binI]at d⊢;have e:¬n<0:=by omega
         exact⟨_,by simp[Xa,c,binOp,XL,e],.int _ _ _ (zfG _ _),rfl,rfl,trivial⟩
   case shr=>
         simp only[binI]at d⊢;have e:¬n<0:=by omega
         exact⟨_,by simp[Xa,c,binOp,XL,e],.int _ _ _ (zGP g),rfl,rfl,trivial⟩
   case eql=>simp only[binI]at d⊢;subst d;exact⟨_,by simp[Xa,c,binOp,Xj],(show VR w _ ι (.bool (m == n)) _ from by rw[show(m == n)=decide (m=n)from rfl];exact .bool _ _),rfl,rfl,trivial⟩
   case neq=>simp only[binI]at d⊢;subst d;exact⟨_,by simp[Xa,c,binOp,Xj],(show VR w _ ι (.bool (m != n)) _ from by rw[show(m != n)=decide (m≠n)from by simp[bne,BEq.beq]];exact .bool _ _),rfl,rfl,trivial⟩
   case lss=>simp only[binI]at d⊢;subst d;exact⟨_,by simp[Xa,c,binOp,Xj],.bool _ _,rfl,rfl,trivial⟩
   case leq=>simp only[binI]at d⊢;subst d;exact⟨_,by simp[Xa,c,binOp,Xj],.bool _ _,rfl,rfl,trivial⟩
   case gtr=>simp only[binI]at d⊢;subst d;exact⟨_,by simp[Xa,c,binOp,Xj],.bool _ _,rfl,rfl,trivial⟩
   case geq=>simp only[binI]at d⊢;subst d;exact⟨_,by simp[Xa,c,binOp,Xj],.bool _ _,rfl,rfl,trivial⟩
  |_=>simp[binI,bad]at d
 |_=>cases b<;>simp[binI,bad]at d
theorem zn7{t}(b:P.underlying t=some .bool)(m n)(w):(Op.equal t (.bool m) (.bool n)).run P w=.ok (m == n) w:=by
 have key:∀d:Nat,(XM (d+1) t (.bool m) (.bool n)).run P w=.ok (m == n) w:=λd=>by simp[XM,run_underlying b]
 exact key 9999
theorem zJn{t}{neg}{x y}{xv yv}{a b}(d:P.underlying t=some .bool)(e:VR w (Lt L ι H) ι xv a)(g:VR w (Lt L ι H) ι yv b)(c:(eqB neg a b H nx).side):
  zaR P w L ι H nx (do eqGuard (bif neg then .neq else .eql) t x y xv yv;binOp (bif neg then .neq else .eql) t xv yv) (eqB neg a b H nx):=by
 cases e with
 |bool _ m=>
  cases g with
  |bool _ n=>
   simp only[eqB];cases neg
   .refine⟨.bool (m == n),?_,.bool _ _,rfl,rfl,trivial⟩;simp[Xa,eqGuard,binOp,zn7 d]
   .refine⟨.bool (m != n),?_,.bool _ _,rfl,rfl,trivial⟩;simp[Xa,eqGuard,binOp,zn7 d,bne]
  |_=>simp[eqB,bad]at c
 |_=>cases b<;>simp[eqB,bad]at c
theorem unR_ok{op}{xv}{x}(d:VR w (Lt L ι H) ι xv x)(c:(unR op x H nx).side):zaR P w L ι H nx (XC op xv) (unR op x H nx):=by
 cases d with
 |bool _ b=>
  cases op<;>simp[unR,bad]at c⊢
  exact⟨_,by simp[XC],.bool _ _,rfl,rfl,trivial⟩
 |int _ k n hn=>
  cases op<;>simp[unR,bad]at c⊢
  exact⟨_,by simp[XC,Xq],.int _ _ _ (zfG _ _),rfl,rfl,trivial⟩
 |_=>cases op<;>simp[unR,bad]at c
theorem zGR{s d}{k' k}{xv}{x}(b:P.underlying s=some (.int k'))(hd:P.underlying d=some (.int k))(e:VR w (Lt L ι H) ι xv x)(c:(zmt k x H nx).side):
  zaR P w L ι H nx (convert s d xv) (zmt k x H nx):=by
 cases e with
 |int _ j n g=>exact⟨_,by simp[convert,run_underlying b,run_underlying hd,Conv.intToInt],.int _ _ _ (zfG _ _),rfl,rfl,trivial⟩
 |_=>simp[zmt,bad]at c
theorem zHB{cv d e}{c a b}(j:VR w (Lt L ι H) ι cv c)(g:VR w (Lt L ι H) ι d a)(h:VR w (Lt L ι H) ι e b)(k:(zlu c a b H nx).side):
  zaR P w L ι H nx (do pure (if <-asBool cv then d else e)) (zlu c a b H nx):=by
 cases j with
 |bool _ t=>
  simp only[zlu];cases t
  .exact⟨e,by simp[asBool],h,rfl,rfl,trivial⟩
  .exact⟨d,by simp[asBool],g,rfl,rfl,trivial⟩
 |_=>simp[zlu,bad]at k
theorem zKZ{i:Nat}{d:Value}{x:AV}(h:VR w (Lt L ι H) ι d x)(b:(extR i x H nx).side):zaR P w L ι H nx (XN d i) (extR i x H nx):=by
 cases h with
 |tup _ cs asv hsz g=>
  simp only[extR]at b⊢;have c:cs[i]?=some (cs[i]'(by omega)):=Wg (by omega);have e:asv[i]?=some (asv.getD i .undef):=by simp[Wl,Wd b]
  exact⟨_,by simp[XN,c],g _ _ _ c e,rfl,rfl,trivial⟩
 |_=>simp[extR,bad]at b
end
section
variable {P:Program}{w:World}{L:Nat->Prop}{ι:Inj}{H:AH}{nx:Nat}{M:Nat->Prop}
theorem zxF(off):∀(d:List Value)(b:Nat)(c:Array Value),off+b+d.length<=c.size ->
  ((d.zipIdx b).foldl (λc (p:Value×Nat)=>c.setIfInBounds (off+p.2) p.1) c).size=c.size /\
  ∀k,((d.zipIdx b).foldl (λc (p:Value×Nat)=>c.setIfInBounds (off+p.2) p.1) c)[k]?=if off+b<=k/\k<off+b+d.length then d[k-(off+b)]? else c[k]?
 |[],b,c,_=>⟨rfl,λk=>by rw[if_neg (by simp only[List.length_nil];omega)];rfl⟩
 |
  v::d,b,c,h=>by
  simp only[List.zipIdx_cons,List.foldl_cons];obtain⟨j,m⟩:=zxF off d (b+1) (c.setIfInBounds (off+b) v) (by simp at h⊢;omega);refine⟨by rw[j];simp,λk=>?_⟩;rw[m k];simp only[List.length_cons]at h⊢;by_cases g:off+(b+1)<=k/\k<off+(b+1)+d.length
  .rw[if_pos g,if_pos (by omega),show k-(off+b)=(k-(off+(b+1)))+1 by omega,W3]
  .rw[if_neg g];by_cases e:k=off+b
   .subst e;rw[if_pos (by omega)];simp[W7];try omega
   .rw[if_neg (by omega)];simp[W7,Xf e]
theorem zAX(off:Nat)(c:Array Value)(b:Array Value)(h:off+c.size<=b.size):
  (c.zipIdx.foldl (λb (p:Value×Nat)=>b.setIfInBounds (off+p.2) p.1) b).size=b.size /\
  ∀k,(c.zipIdx.foldl (λb (p:Value×Nat)=>b.setIfInBounds (off+p.2) p.1) b)[k]?=if off<=k/\k<off+c.size then c[k-off]? else b[k]? := by
 have:=zxF off c.toList 0 b (by simpa using h);rw[<-Array.foldl_toList,Array.toList_zipIdx];simpa using this
structure CR(w:World)(M:Nat->Prop)(ι:Inj)(cs:Array Value)(asv:List AV):Prop where
 size:cs.size=asv.length
 one:∀(i:Nat)(v:Value),cs[i]?=some v->v.oneCell'=true
 rel:∀(i:Nat)(v:Value)(a:AV),cs[i]?=some v->asv[i]?=some a->VR w M ι v a
theorem CR.agg{cs}{asv}(h:CR w M ι cs asv):VR w M ι (.agg cs) (.agg asv):=.agg _ _ _ h.size h.one h.rel
theorem VR.cr{v}{a}(h:VR w M ι v a)(e:a.solid=true):CR w M ι v.cells a.cells:=let ⟨b,c,d⟩:=h.cells e;⟨b,c,d⟩
theorem zlg(l)(f)(vs)(h:f+vs.length<=l.length):(splice l f vs).length=l.length:=by simp[splice];omega
theorem zvm(l)(f)(vs)(h:f+vs.length<=l.length)(k):(splice l f vs)[k]?=if f<=k/\k<f+vs.length then vs[k-f]? else l[k]? := by
 unfold splice;have d:(l.take f).length=f:=by simp;omega
 by_cases b:k<f
 .rw[if_neg (by omega),WG,WB (by omega),WE,if_pos b]
 .by_cases c:k<f+vs.length
  .rw[if_pos ⟨by omega,c⟩,WG,WC (by omega),d,WB (by omega)]
  .rw[if_neg (by omega),WC (by simp;omega),WF];congr 1;simp;omega
theorem CR.splice{c}{asv}(h:CR w M ι c asv){vs}{bs}(e:CR w M ι vs bs){off}(j:off+bs.length<=asv.length):
  CR w M ι (vs.zipIdx.foldl (λc (p:Value×Nat)=>c.setIfInBounds (off+p.2) p.1) c) (Ab.splice asv off bs):=by
 obtain⟨m,k⟩:=zAX off vs c (by rw[e.size,h.size];exact j);refine⟨by rw[m,zlg _ _ _ j,h.size],λi v b=>?_,λi v a b d=>?_⟩
 .rw[k]at b;split at b
  .exact e.one _ _ b
  .exact h.one _ _ b
 .rw[k]at b;rw[zvm _ _ _ j]at d;rw[e.size]at b;split at b
  .rename_i g;rw[if_pos g]at d;exact e.rel _ _ _ b d
  .rename_i g;rw[if_neg g]at d;exact h.rel _ _ _ b d
inductive PL(w:World)(M:Nat->Prop)(ι:Inj)(place:Nat->Option (Nat×Nat)):List (Nat×Value)->List (Nat×Nat×AV)->Prop where
 |nil:PL w M ι place [] []
 |cons {i v off size a ps qs} (hp:place i=some (off,size)) (hv:VR w M ι v a) (h:PL w M ι place ps qs):PL w M ι place ((i,v)::ps) ((off,size,a)::qs)
theorem zEp{place}{o}{m}(h:PL w M ι place o m):
  ∀{d:Array Value}{b:List AV},CR w M ι d b->ztJ b.length m->∃c,Xm place d o=some c/\CR w M ι c (zC3 b m):=by
 induction h with
 |nil=>intro d b e _;exact⟨d,rfl,e⟩
 |cons hp hv h ih=>
  intro d b e u;rename_i i v off size a o m;obtain⟨⟨q,n,p⟩,h4⟩:=u;have g:=hv.cr q;have k:v.cells.size=size:=by rw[g.size,n]
  have j:=e.splice g (off:=off) (by rw[n];exact p);obtain⟨c,s,t⟩:=ih j (by rw[zlg _ _ _ (by rw[n];exact p)];exact h4);refine⟨c,?_,t⟩;have x:¬(off+v.cells.size > d.size):=by rw[k,e.size];omega
  simp only[Xm,hp];rw[if_neg (by simp[k];rw[e.size];omega)];exact s
theorem zgN{t}{z}(h:zhC P t=some z):∃i c,P.info? t=some i/\i.zero=some c/\c.cells.size=i.size/\z.length=i.size/\∀(w:World) M ι,CR w M ι c.cells z:=by
 unfold zhC at h;split at h
 .rename_i i m;split at h
  .rename_i c n;split at h
   .rename_i e;have d:=zjR.mapM_len _ _ _ h;have b:z.length=c.cells.size:=by simpa using d
    refine⟨i,c,m,n,e.1,by rw[b,e.1],λw M ι=>⟨b.symm,λk v g=>?_,λk v a g j=>?_⟩⟩
    .exact(WZ.1 e.2) v (W0 g)
    .exact zjR 1 v a (zjR.mapM_get _ _ _ h k v a (by simpa using g) j)
   .cases h
  .cases h
 .cases h
structure FR(w:World)(M:Nat->Prop)(ι:Inj)(sz:Nat)(cs:Array Value)(els:List (List AV)):Prop where
 size:cs.size=els.length*sz
 wide:∀(i:Nat)(c:List AV),els[i]?=some c->c.length=sz
 rel:∀(i:Nat)(c:List AV)(j:Nat)(a:AV),els[i]?=some c->c[j]?=some a->∃v,cs[i*sz+j]?=some v/\v.oneCell'=true/\VR w M ι v a
theorem zDH{i n j b:Nat}(c:i<n)(d:j<b):i*b+j<n*b:=by have:(i+1)*b<=n*b:=Wi _ c;rw[We]at this;omega
theorem FR.zeros{sz n}{e}{z}(h:CR w M ι e z)(q:z.length=sz)(p:0<sz):
  FR w M ι sz ((Wt (n*sz)).map λi=>e[i % e.size]!) (Wh n z):=by
 refine⟨by simp,λi c b=>?_,λi c j a b o=>?_⟩
 .rw[Wu]at b;split at b
  .cases b;exact q
  .cases b
 .rw[Wu]at b;split at b
  .rename_i k;cases b;have s:j<z.length:=(Wf.1 o).1;have d:j<e.size:=by rw[h.size];exact s
   have m:i*sz+j<n*sz:=zDH k (by omega);have g:(i*sz+j) % e.size=j:=by rw[h.size,q,Wv,Nat.mul_add_mod];exact W8 (by omega)
   refine⟨e[j],?_,h.one j _ (Wg d),h.rel j _ a (Wg d) o⟩;rw[Array.getElem?_map,Array.getElem?_range,if_pos m];simp only[Option.map_some,g];rw[getElem!_pos e j d]
  .cases b
theorem FR.set{sz}{m}{els}(h:FR w M ι sz m els){g}{bs}(q:CR w M ι g bs)(y:bs.length=sz){i}(I:i<els.length):
  FR w M ι sz (g.zipIdx.foldl (λm (p:Value×Nat)=>m.setIfInBounds (i*sz+p.2) p.1) m) (els.set i bs):=by
 have t:(i+1)*sz<=els.length*sz:=Wi _ I;rw[We]at t;have n:g.size=sz:=by rw[q.size,y]
 obtain⟨A,x⟩:=zAX (i*sz) g m (by rw[n,h.size];omega);refine⟨by rw[A,h.size];simp,λk c b=>?_,λk c j a b o=>?_⟩
 .rw[Ww]at b;split at b
  .cases b;exact y
  .exact h.wide _ _ b
 .rw[Ww]at b;split at b
  .rename_i d;subst d;cases b;have z:j<bs.length:=(Wf.1 o).1;have e:j<g.size:=by rw[q.size];exact z
   refine⟨g[j],?_,q.one j _ (Wg e),q.rel j _ a (Wg e) o⟩;rw[x,if_pos ⟨by omega,by omega⟩,show i*sz+j-i*sz=j by omega];exact Wg e
  .rename_i d;obtain⟨v,B,C,D⟩:=h.rel k c j a b o;refine⟨v,?_,C,D⟩;have z:j<sz:=by rw[<-h.wide k c b];exact(Wf.1 o).1
   rw[x,if_neg,B];rintro⟨J,F⟩;rw[n]at F;rcases W9 d with u|s
   .have:(i+1)*sz<=k*sz:=Wi _ u;rw[We]at this;omega
   .have:(k+1)*sz<=i*sz:=Wi _ s;rw[We]at this;omega
inductive EL(w:World)(M:Nat->Prop)(ι:Inj):List (Nat×Value)->List (Nat×AV)->Prop where
 |nil:EL w M ι [] []
 |cons {i v a ps qs} (hv:VR w M ι v a) (h:EL w M ι ps qs):EL w M ι ((i,v)::ps) ((i,a)::qs)
theorem zh7:∀(c:List (Nat×AV)) (b:List (List AV)),(zc7 b c).length=b.length
 |[],_=>rfl
 |(i,v)::r,b=>by simp[zc7,zh7 r]
theorem zCu{d:Nat}{o:List (Nat×Value)}{k:List (Nat×AV)}(h:EL w M ι o k):
  ∀ {e:Array Value}{b:List (List AV)},FR w M ι d e b->znJ b.length d k->∃c,Xm (λi=>some (i*d,d)) e o=some c/\FR w M ι d c (zc7 b k):=by
 induction h with
 |nil=>intro e b j _;exact⟨e,rfl,j⟩
 |cons hv h ih=>
  intro e b j x;rename_i i v a o k;obtain⟨⟨s,p,q⟩,h4⟩:=x;have g:=hv.cr s;have n:v.cells.size=d:=by rw[g.size,p]
  have m:(i+1)*d<=b.length*d:=Wi _ q;rw[We]at m;obtain⟨c,t,u⟩:=ih (j.set g p q) (by simpa using h4);refine⟨c,?_,u⟩;simp only[Xm];rw[if_neg (by simp[n];rw[j.size];omega)];exact t
end
def zfV(P:Program)(w:World)(L:Nat->Prop)(ι:Inj)(H:AH)(nx:Nat)(s:Sem Value)(r:ORes):Prop :=
 ∃v c b,s.run P w=.ok v c/\Step w L ι H nx c b r.H r.nx/\VR c (Lt L b r.H) b v r.v/\r.fact
section
variable {P:Program}{w:World}{L:Nat->Prop}{ι:Inj}{H:AH}{nx:Nat}{M:Nat->Prop}
theorem zEa{t}{h:Array Field}{z}{parts}{qs}{places}(p:P.underlying t=some (.struct h))(q:zhC P t=some z)(d:∀w:World,(h.mapM λ(f:Field)=>do pure (f.offset,<-sizeOf f.type)).run P w=.ok places w)(e:PL w (Lt L ι H) ι (λi=>places[i]?) parts.toList qs)(n:(zg3 z qs H nx).side):zaR P w L ι H nx (XO t parts) (zg3 z qs H nx):=by
 obtain⟨i,u,m,g,o,s,c⟩:=zgN q;obtain⟨b,j,k⟩:=zEp e (c w (Lt L ι H) ι) n;refine⟨.agg b,?_,k.agg,rfl,rfl,trivial⟩;simp only[XO,zeroValue,typeInfo,Xa,run_program,Xy,m,Xx,g,run_underlying p,d,j]
theorem zc3(e)(cs)(w):(newRow e cs).run P w=.ok ⟨w.heap.size,0,none⟩ (w.alloc (.cells cs e)):=by simp[newRow,Xa]
theorem Step.new(rel:RelH w L ι H nx){c}{cs}{b}(e)(h:FR w (Lt L ι H) ι c cs b)(d:b.length<=maxLen):
  Step w L ι H nx (w.alloc (.cells cs e)) (ι.put nx 0 0 ⟨w.heap.size,0,b.length,c⟩) (H.set nx 0 (.row c b 0)) (nx+1) :=
 .alloc rel cs e c b b.length (Wc _) d h.size h.wide h.rel
theorem zKY{e}{g}{x}(rel:RelH w L ι H nx)(p:VR w (Lt L ι H) ι g x)(o:(boxR x H nx).side):zfV P w L ι H nx (Xs e g) (boxR x H nx):=by
 have b:=p.cr o
 have h:FR w (Lt L ι H) ι x.cells.length g.cells [x.cells]:=by
  refine⟨by simp[b.size],λi c d=>?_,λi c j a d n=>?_⟩
  .cases i with
   |zero=>simp at d;rw[<-d]
   |succ i=>simp at d
  .cases i with
   |zero=>
    simp at d;subst d;have k:j<g.cells.size:=by rw[b.size];exact(Wf.1 n).1
    refine⟨g.cells[j],?_,b.one j _ (Wg k),b.rel j _ a (Wg k) n⟩;rw[WH,Wp];exact Wg k
   |succ i=>simp at d
 have m:=Step.new rel e h (by simp[maxLen]);refine⟨.pointer (some ⟨w.heap.size,0,none⟩),_,_,?_,m,?_,trivial⟩
 .simp[Xs,newVar,Xa,zc3]
 .have:=VR.ptr (w:=w.alloc (.cells g.cells e)) (L:=Lt L (ι.put nx 0 0 ⟨w.heap.size,0,1,x.cells.length⟩) (H.set nx 0 (.row x.cells.length [x.cells] 0))) (ι.put nx 0 0 ⟨w.heap.size,0,1,x.cells.length⟩) nx 0 0 0 0 _ (Inj.put_same _ _ _ _ _) (by simp[maxLen]);simp at this;exact this
theorem RelH.grow{w'}(rel:RelH w L ι H nx)(o:w.heap.size<=w'.heap.size)(e:∀b,b<w.heap.size->w'.heap[b]?=w.heap[b]?):RelH w' L ι H nx:=by refine⟨λr q s c g h=>?_,rel.apart,rel.out,rel.idx,rel.dom,rel.gen,λb k=>Wy (rel.Lsz b k) o⟩;obtain⟨l,j,ok⟩:=rel.row r q s c g h;exact⟨l,j,ok.trans (λn=>e l.block (ok.blk_lt n)) (λv a p=>p.mono (λb d m=>⟨e b d,m⟩) (λ_ _ _ _ h=>h))⟩
theorem zx1{ι}{v}{a}(b:a.flat0=true)(h:VR w M ι v a):VR w M noI v a:=by cases h<;>first|(cases b;done)|(constructor<;>assumption)
theorem zbN:∀{l:List AV},zz l=true->∀{i:Nat}{a:AV},l[i]?=some a->a.flat0=true
 |[],_,i,a,h=>by cases h
 |
  v::r,h,i,a,b=>by
  simp only[zz,WA]at h
  cases i with
  |zero=>cases b;exact h.1
  |succ i=>exact zbN h.2 (by simpa using b)
theorem zG3{e}{xv}{x}(rel:RelH w L ι H nx)(v:VR w (Lt L ι H) ι xv x)(q:(zoC x H nx).side):zfV P w L ι H nx (Xs e xv) (zoC x H nx):=by
 have g:=v.cr q.1;have d:∀b,b<w.heap.size->(w.alloc (.cells xv.cells e)).heap[b]?=w.heap[b]? := λb k=>Xp w _ b k
 have n:w.heap.size<=(w.alloc (.cells xv.cells e)).heap.size:=by simp
 refine⟨.pointer (some ⟨w.heap.size,0,none⟩),w.alloc (.cells xv.cells e),ι,by simp[Xs,newVar,Xa,zc3],⟨⟨rfl,rfl,rfl,n,λb k _=>d b k⟩,λ_ _ _ _ h=>h,rel.grow n d,λb k=>.inl k⟩,?_,trivial⟩;refine .iptr _ _ _ _ (λj=>(xv.cells.getD j undef)) (λj o=>?_) (λ_ m=>?_) (λj o=>?_)
 .have c:j<xv.cells.size:=by rw[g.size];exact o
  have s:(Xg ⟨w.heap.size,0,none⟩ j)=⟨w.heap.size,j,none⟩:=by unfold Xg;split<;>simp
  rw[s];have:=g.one j _ (Wg c);rw[show xv.cells.getD j undef=xv.cells[j] by simp[Array.getD,c]];refine⟨?_,this⟩;rw[Xh];simp[c]
 .rcases m with m|m
  .exact absurd (rel.Lsz _ m) (Wz _)
  .exact absurd (rel.live_lt m) (Wz _)
 .have c:j<xv.cells.size:=by rw[g.size];exact o
  have p:x.cells[j]?=some x.cells[j]:=Wd o;have u:=g.rel j _ _ (Wg c) p;rw[show xv.cells.getD j undef=xv.cells[j] by simp[Array.getD,c],show x.cells.getD j .undef=x.cells[j] by simp[Wl,p]];exact(zx1 (zbN q.2 p) u).mono (λb k t=>⟨d b k,t⟩) (λ_ _ _ _ h=>h)
theorem zFt{e}{z}(rel:RelH w L ι H nx)(s:zhC P e=some z):zfV P w L ι H nx (XP e true (.tuple #[])) (zjz z H nx):=by
 obtain⟨i,g,d,o,q,t,h⟩:=zgN s;have b:=h w (Lt L ι H) ι
 have k:FR w (Lt L ι H) ι z.length g.cells [z]:=by
  refine⟨by simp[b.size],λi c d=>?_,λi c j a d p=>?_⟩
  .cases i with
   |zero=>simp at d;rw[<-d]
   |succ i=>simp at d
  .cases i with
   |zero=>
    simp at d;subst d;have m:j<g.cells.size:=by rw[b.size];exact(Wf.1 p).1
    refine⟨g.cells[j],?_,b.one j _ (Wg m),b.rel j _ a (Wg m) p⟩;rw[WH,Wp];exact Wg m
   |succ i=>simp at d
 have n:=Step.new rel e k (by simp[maxLen]);refine⟨.pointer (some ⟨w.heap.size,0,none⟩),_,_,?_,n,?_,trivial⟩
 .simp[XP,zeroValue,typeInfo,d,o,newVar,Xa,zc3]
 .have:=VR.ptr (w:=w.alloc (.cells g.cells e)) (L:=Lt L (ι.put nx 0 0 ⟨w.heap.size,0,1,z.length⟩) (H.set nx 0 (.row z.length [z] 0))) (ι.put nx 0 0 ⟨w.heap.size,0,1,z.length⟩) nx 0 0 0 0 _ (Inj.put_same _ _ _ _ _) (by simp[maxLen]);simp at this;exact this
theorem zJw{w'}{M'}{b n cap e}(d:n<=cap)(c:cap<=maxLen):VR w' M' (ι.put nx 0 0 ⟨b,0,cap,e⟩) (.slice (some ⟨b,0,none⟩) n cap) (.own nx 0 0 0 n) :=
 .own _ nx 0 0 0 n _ cap _ (Inj.put_same _ _ _ _ _) c d (by simp) (λ_=>by simp)
theorem ztX{t e}{i:TypeInfo}{len}{z}{parts}{qs}(rel:RelH w L ι H nx)(F:P.underlying t=some (.slice e))(q:P.info? e=some i)(O:zhC P e=some z)(k:len*i.size<=16777216)(c:0<i.size)(y:EL w (Lt L ι H) ι parts.toList qs)(K:(zcM i.size len z qs H nx).side) :
  ∃b,(Xn t len parts).run P w=.ok (.slice (some ⟨w.heap.size,0,none⟩) len len) (w.alloc (.cells b e))/\FR w (Lt L ι H) ι i.size b (zc7 (Wh len z) qs)/\len<=maxLen:=by
 obtain⟨Q,R,h,C,N,B,o⟩:=zgN O;rw[q]at h;cases h;have p:=FR.zeros (n:=len) (o w (Lt L ι H) ι) B c;obtain⟨b,m,I⟩:=zCu y p (by rw[WI];exact K);have s:(zc7 (Wh len z) qs).length=len:=by rw[zh7,WI]
 have J:len<=maxLen:=by have:len*1<=len*i.size:=Waa _ c;unfold maxLen;omega
 refine⟨b,?_,I,J⟩;rcases Wm len with A|j
 .subst A
  have g:Xm (λD=>some (D*i.size,i.size)) (Array.map (λx=>(default:Value)) (Wt 0)) parts.toList=some b:=by
   have e:∀(f:Nat->Value),Array.map f (Wt 0)=#[]:=λf=>by simp
   rw[<-m,WH,e,e]
  simp[Xn,run_underlying F,sizeOf,typeInfo,q,Xa,zc3];split
  .rename_i cells heq;rw[g]at heq;cases heq;simp[zc3]
  .rename_i d;exact(d b g).elim
 have u:¬(len*i.size=0):=by have:=Wk j c;omega
 have v:¬(len*i.size > 16777216):=by omega
 simp[Xn,run_underlying F,sizeOf,typeInfo,q,v,u,zeroValue,C,Xa,zc3];split
 .rename_i cells heq;rw[m]at heq;cases heq;simp[zc3]
 .rename_i d;exact(d b m).elim
theorem zzL{t e}{i:TypeInfo}{len}{z}{parts}{qs}(rel:RelH w L ι H nx)(q:P.underlying t=some (.slice e))(o:P.info? e=some i)(s:zhC P e=some z)(c:len*i.size<=16777216)(d:0<i.size)(h:EL w (Lt L ι H) ι parts.toList qs)(p:(zcM i.size len z qs H nx).side) :
  zfV P w L ι H nx (Xn t len parts) (zcM i.size len z qs H nx):=by
 obtain⟨k,m,n,j⟩:=ztX rel q o s c d h p;have b:(zc7 (Wh len z) qs).length=len:=by rw[zh7,WI]
 have g:=Step.new rel e n (by rw[b];exact j);rw[b]at g;exact⟨.slice (some ⟨w.heap.size,0,none⟩) len len,_,_,m,g,zJw (Wc _) j,trivial⟩
theorem zw1{t e}{i:TypeInfo}{len}{z}{parts}{qs}(rel:RelH w L ι H nx)(V:P.underlying t=some (.slice e))(S:P.info? e=some i)(X:zhC P e=some z)(k:len*i.size<=16777216)(y:0<i.size)(J:EL w (Lt L ι H) ι parts.toList qs)(N:(zbu i.size len z qs H nx).side) :
  zfV P w L ι H nx (Xn t len parts) (zbu i.size len z qs H nx):=by
 obtain⟨d,R,K,T⟩:=ztX rel V S X k y J (nx:=nx) N.1;have g:(zc7 (Wh len z) qs).length=len:=by rw[zh7,WI]
 have j:∀b,b<w.heap.size->(w.alloc (.cells d e)).heap[b]?=w.heap[b]? := λb n=>Xp w _ b n
 have B:w.heap.size<=(w.alloc (.cells d e)).heap.size:=by simp
 have cell:∀p q,p<len->q<i.size->∃c a v,(zc7 (Wh len z) qs)[p]?=some c/\c[q]?=some a/\d[p*i.size+q]?=some v/\v.oneCell'=true/\VR w (Lt L ι H) ι v a:=by intro p q u A;have o:=Wd (l:=zc7 (Wh len z) qs) (by rw[g];exact u);have W:=K.wide p _ o;have s:=Wd (l:=(zc7 (Wh len z) qs)[p]'(by rw[g];exact u)) (by rw[W];exact A);obtain⟨v,F,O,Q⟩:=K.rel p _ q _ o s;exact⟨_,_,v,o,s,F,O,Q⟩
 refine⟨_,w.alloc (.cells d e),ι,R,⟨⟨rfl,rfl,rfl,B,λb n _=>j b n⟩,λ_ _ _ _ h=>h,rel.grow B j,λb n=>.inl n⟩,?_,trivial⟩;refine .sl _ ⟨w.heap.size,0,none⟩ i.size len len _ (λp q=>d.getD (p*i.size+q) undef) (Wc _) (by unfold big;unfold maxLen at T;omega) (λp q u A=>?_) (λ_ x=>?_) (λp q u A=>?_)
 .obtain⟨c,a,v,o,s,m,C,D⟩:=cell p q u A;have F:((Xg ⟨w.heap.size,0,none⟩ (p*i.size)).add q)=⟨w.heap.size,p*i.size+q,none⟩:=by rw[Xk];unfold Xg;split<;>simp
  rw[F,Xh];refine⟨?_,?_⟩
  .simp only[WU,m,WV]
  .simp only[WU,m,WV];exact C
 .rcases x with x|x
  .exact absurd (rel.Lsz _ x) (Wz _)
  .exact absurd (rel.live_lt x) (Wz _)
 .obtain⟨c,a,v,o,s,m,C,D⟩:=cell p q u A;simp only[WU,m,WV,W5,o,s];have I:zz c=true:=List.all_eq_true.1 N.2 c (WD o);exact(zx1 (zbN I s) D).mono (λb n U=>⟨j b n,U⟩) (λ_ _ _ _ h=>h)
theorem zJc{t e:TypeId}{i:TypeInfo}{z:List AV}{lv O:Value}{l c:AV}(rel:RelH w L ι H nx)(R:P.underlying t=some (.slice e))(D:P.info? e=some i)(Z:zhC P e=some z)(q:0<i.size)(W:VR w (Lt L ι H) ι lv l)(U:VR w (Lt L ι H) ι O c)(v:(zlz i.size i.bytes z l c H nx).side):zfV P w L ι H nx (XD t lv O) (zlz i.size i.bytes z l c H nx):=by
 obtain⟨i',S,g,N,Y,u,x⟩:=zgN Z;rw[D]at g;cases g
 cases W with
 |int _ k n hn=>
  cases U with
  |int _ k' m hm=>
   simp only[zlz]at v⊢;obtain⟨rfl,rfl,h0,h1,h2,h3⟩:=v;have X:m<=140737488355328:=by have:(1:Int)*m<=i.bytes*m:=Int.mul_le_mul_of_nonneg_right (by omega) (by omega);omega
   have s:IntKind.i64.wrap n=n:=IntWalk.i64_in n ⟨by omega,by omega⟩;have K:IntKind.i64.wrap m=m:=IntWalk.i64_in m ⟨by omega,by omega⟩;have o:m.toNat<=maxLen:=by unfold maxLen;omega
   have d:=FR.zeros (n:=m.toNat) (x w (Lt L ι H) ι) u q
   have J:Step w L ι H nx (w.alloc (.cells ((Wt (m.toNat*i.size)).map λk=>S.cells[k % S.cells.size]!) e)) (ι.put nx 0 0 ⟨w.heap.size,0,m.toNat,i.size⟩) (H.set nx 0 (.row i.size (Wh n.toNat z) 0)) (nx+1):=by
    refine .alloc rel _ e i.size _ m.toNat (by simp;omega) o (by rw[d.size];simp) (λk c b=>?_) (λk c j a b T=>?_)
    .rw[Wu]at b;split at b
     .cases b;exact u
     .cases b
    .refine d.rel k c j a ?_ T;rw[Wu]at b⊢;split at b
     .rw[if_pos (by omega)];exact b
     .cases b
   refine⟨.slice (some ⟨w.heap.size,0,none⟩) n.toNat m.toNat,_,_,?_,J,zJw (by omega) o,trivial⟩;have V:¬(m<0\/281474976710656<(i.bytes:Int)*m):=by omega
   have y:¬(n<0):=by omega
   have A:¬(m<n):=by omega
   have B:¬(m<0):=by omega
   have C:¬(281474976710656<(i.bytes:Int)*m):=by omega
   by_cases p:m.toNat*i.size=0
   .have:m.toNat=0:=by
     rcases Nat.mul_eq_zero.1 p with h|h
     .exact h
     .omega
    have F:m=0:=by omega
    have I:n=0:=by omega
    subst F;subst I;have Q:∀(f:Nat->Value),(Wt 0).map f=#[]:=λf=>by simp[Wt]
    simp[XD,run_underlying R,asInt,asIntOf,typeInfo,D,s,sizeOf,Xa,zc3];rw[Q,Q]
   .simp[XD,run_underlying R,asInt,asIntOf,typeInfo,D,s,K,y,A,B,C,sizeOf,p,zeroValue,N,Xa,zc3];all_goals first|done|(split<;>first|(rename_i h;rcases h with h|h<;>omega)|simp[zc3])
  |_=>simp[zlz,bad]at v
 |_=>cases c<;>simp[zlz,bad]at v
end
theorem zqi(b):∀(c:List Value)(o:Nat)(w:World),(w.setCells b o c).tape=w.tape
 |[],_,_=>rfl
 |v::r,o,w=>by rw[Xw,zqi b r];rfl
theorem zpf(b):∀(c:List Value)(o:Nat)(w:World),(w.setCells b o c).heap.size=w.heap.size
 |[],_,_=>rfl
 |v::r,o,w=>by rw[Xw,zpf b r];simp
theorem zid(w:World)(b o:Nat)(c:List Value)(h:∀j,j<c.length->(w.cell? ⟨b,o+j,none⟩).isSome=true)(x:Nat):
  (w.setCells b o c).cell? ⟨b,x,none⟩=if o<=x/\x<o+c.length then c[x-o]? else w.cell? ⟨b,x,none⟩:=by
 by_cases d:o<=x/\x<o+c.length
 .rw[if_pos d];have:=World.cell?_setCells_in b c o w h (x-o) (by omega);rw[show o+(x-o)=x by omega]at this;rw[this];exact(Wd _).symm
 .rw[if_neg d];exact World.cell?_setCells_out b c o w _ (λ_ _=>by show x<o\/o+c.length<=x;omega)
section
variable {P:Program}{w:World}{L:Nat->Prop}{ι:Inj}{H:AH}{nx:Nat}{M:Nat->Prop}
theorem Chg.write{r q g k e o}{c}{l j}{vs}(rel:RelH w L ι H nx)(p:H.get r q=some (.row e c k))(m:ι r q k=some j)(u:0<j.cap*j.sz)(t:l.block=j.block)(d:∀v,ι r q g=some v->v=l)(n:k<=g):Chg w ι H r q g l (w.setCells l.block o vs):=by
 refine⟨World.os_setCells _ _ _ _,zqi _ _ _ _,World.output_setCells _ _ _ _,by rw[zpf];exact Wc _,λb s z=>?_,λ_=>.inl ⟨e,c,k,j,p,m,u,t.symm⟩,d,λx A y=>WK (rel.gen r q _ _ _ p x A y) n⟩;exact World.heap_setCells_other w _ _ _ s (λh=>z ⟨e,c,k,j,p,m,u,by rw[h,t]⟩)
theorem zDU{t:TypeId}{i:TypeInfo}{pv F:Value}{p x:AV}(rel:RelH w L ι H nx)(hi:P.info? t=some i)(hp:VR w (Lt L ι H) ι pv p)(hx:VR w (Lt L ι H) ι F x)(hs:(zfu i.size p x H nx).side):
  ∃w' ι',(XE t pv F).run P w=.ok () w'/\Step w L ι H nx w' ι' (zfu i.size p x H nx).H (zfu i.size p x H nx).nx/\(zfu i.size p x H nx).fact/\(zfu i.size p x H nx).v=.undef:=by
 cases hp with
 |ptr _ r q0 g k f l S hm=>
  cases A:H.get r q0 with
  |none=>simp[zfu,A,bad]at hs
  |some o=>
   cases o with
   |fam e ins=>simp[zfu,A,bad]at hs
   |row e b g'=>
    simp only[zfu,A]at hs⊢;obtain⟨rfl,V,hf,hsol,m⟩:=hs;obtain⟨l',hl',ok⟩:=rel.row _ _ _ _ _ A;rw[S]at hl';cases hl';have y:=hx.cr hsol;have z:=ok.hsz;have N:F.cells.toList.length=i.size:=by simp[y.size,m]
    have hkc:k<l.cap:=Wy V (ok.plain hm).len;have hkc':(k+1)*e<=l.cap*e:=Wi _ hkc;rw[We]at hkc';have u:∀j,j<F.cells.toList.length->(w.cell? ⟨l.block,l.off+k*l.sz+f+j,none⟩).isSome=true/\w.frozen? ⟨l.block,l.off+k*l.sz+f+j,none⟩=false:=λj d=>by have:=(ok.plain hm).there (k*e+f+j) (by rw[N]at d;omega);rw[z,show l.off+k*e+f+j=l.off+(k*e+f+j) by omega];exact this
    by_cases hn0:i.size=0
    .have hnil:F.cells.toList=[]:=Wq (by omega);have hxn:x.cells=[]:=Wq (by omega)
     have hels:b.set k (bif Wa f 0&&Wa i.size e then x.cells else splice (b.getD k []) f x.cells)=b:=by
      have e1:(bif Wa f 0&&Wa i.size e then x.cells else splice (b.getD k []) f x.cells)=b.getD k []:=by
       have D:=ok.wide k (b.getD k []) (by simp[Wl,Wd V])
       cases J:Wa f 0&&Wa i.size e with
       |false=>simp[hxn,splice]
       |true=>simp only[WA]at J;have:=zm J.2;rw[hn0]at this;rw[<-this]at D;simp only[cond_true,hxn];exact(Wq D).symm
      rw[e1];apply List.ext_getElem?;intro q;rw[Ww];split
      .rename_i h;subst h;simp[Wl,Wd V]
      .rfl
     rw[hels];have c:Chg w ι H r q0 g l w:=⟨rfl,rfl,rfl,Wc _,λ_ _ _=>rfl,λhpos=>.inl ⟨e,b,g,l,A,S,hpos,rfl⟩,λl0 I=>by rw[S]at I;cases I;rfl,λg2 l2 U=>rel.gen r q0 _ _ _ A g2 l2 U⟩;refine⟨w,ι.put r q0 g l,?_,c.step (.inl ⟨_,_,A⟩) rel (rel.idx _ _ _ _ S) (Wc _) (.mk' ok.hsz (ok.plain hm).len hm (ok.plain hm).there (ok.plain hm).fz ok.wide (λi W j a h1 U=>?_)),trivial,trivial⟩
     .simp[XE,Xe,storeVar,sizeOf,typeInfo,hi,hn0,y.size,m,hnil,storeCells]
     .obtain⟨v,O,X,Y⟩:=ok.holds hm i W j a h1 U;exact⟨v,O,X,c.vr (.inl ⟨_,_,A⟩) rel Y⟩
    .have K:0<e:=by omega
     have Z:0<l.cap*l.sz:=by rw[z];exact Wk (by omega) K
     have c:Chg w ι H r q0 g l (w.setCells l.block (l.off+k*l.sz+f) F.cells.toList) :=
      .write rel A S Z rfl (λl0 I=>by rw[S]at I;cases I;rfl) (Wc _)
     have s:=zid w l.block (l.off+k*l.sz+f) F.cells.toList (λj d=>(u j d).1)
     have C:(bif Wa f 0&&Wa i.size e then x.cells else splice (b.getD k []) f x.cells).length=e:=by
      have D:=ok.wide k (b.getD k []) (by simp[Wl,Wd V])
      cases J:Wa f 0&&Wa i.size e with
      |false=>simp only[cond_false];rw[zlg _ _ _ (by omega),D]
      |true=>simp only[WA]at J;simp only[cond_true,m];exact zm J.2
     have hnew:∀j a,(bif Wa f 0&&Wa i.size e then x.cells else splice (b.getD k []) f x.cells)[j]?=some a ->
       (f<=j/\j<f+i.size/\x.cells[j-f]?=some a)\/(¬(f<=j/\j<f+i.size)/\(b.getD k [])[j]?=some a):=by
      intro j a d;have D:=ok.wide k (b.getD k []) (by simp[Wl,Wd V])
      cases J:Wa f 0&&Wa i.size e with
      |false=>
       rw[J]at d;simp only[cond_false]at d;rw[zvm _ _ _ (by omega)]at d;rw[m]at d;split at d
       .rename_i h;exact .inl ⟨h.1,h.2,d⟩
       .rename_i h;exact .inr ⟨h,d⟩
      |true=>rw[J]at d;simp only[WA]at J;have I:=zm J.1;simp only[cond_true]at d;have hjl:j<x.cells.length:=(Wf.1 d).1;subst I;exact .inl ⟨Wr _,by omega,by simpa using d⟩
     refine⟨_,ι.put r q0 g l,?_,c.step (.inl ⟨_,_,A⟩) rel (rel.idx _ _ _ _ S) (Wc _) (.mk' z (by simpa using(ok.plain hm).len) hm (λq B=>?_) (λhp=>((ok.plain hm).fz hp).setCells) (λq W B=>?_) (λq W j a B d=>?_)),trivial,trivial⟩
     .have hst:=run_storeCells_cells (P:=P) l.block (l.off+k*l.sz+f) F.cells.toList 0 w (λj d=>by simpa using(u j d).1) (λj d=>by simpa using(u j d).2)
       (λv hv=>by
        obtain⟨n,hn⟩:=Wab hv
        exact y.one n v (by simpa using hn))
      simp only[WW]at hst;have T:F.cells.size=i.size:=by rw[y.size,m]
      simp[XE,Xe,storeVar,sizeOf,typeInfo,hi,T,hst]
     .have I:=(ok.plain hm).there q B;rw[s,XF];refine⟨?_,I.2⟩;split
      .rename_i h;rw[Wd (by omega)];rfl
      .exact I.1
     .rw[Ww]at B;split at B
      .cases B;exact C
      .exact ok.wide _ _ B
     .rw[Ww]at B;split at B
      .rename_i R;subst R;cases B;rcases hnew j a d with ⟨h1,U,O⟩|⟨h1,U⟩
       .have Q:j-f<F.cells.size:=by rw[y.size,m];omega
        refine⟨F.cells[j-f],?_,y.one _ _ (Wg Q),c.vr (.inl ⟨_,_,A⟩) rel (y.rel _ _ _ (Wg Q) O)⟩;rw[s,if_pos (by rw[N,z];omega),z,show l.off+k*e+j-(l.off+k*e+f)=j-f by omega,WX];exact Wg Q
       .obtain⟨v,O,X,Y⟩:=ok.holds hm k _ j a (by simp[Wl,Wd V]) U;refine⟨v,?_,X,c.vr (.inl ⟨_,_,A⟩) rel Y⟩;rw[s,if_neg (by rw[N,z];omega)];exact O
      .rename_i R;obtain⟨v,O,X,Y⟩:=ok.holds hm q W j a B d;refine⟨v,?_,X,c.vr (.inl ⟨_,_,A⟩) rel Y⟩;have hjs:j<e:=by rw[<-ok.wide q W B];exact(Wf.1 d).1
       rw[s,if_neg,O];rintro⟨h6,h7⟩;rw[N]at h7;rw[z]at h6 h7;rcases W9 R with hlt|hgt
       .have:(k+1)*e<=q*e:=Wi _ hlt;rw[We]at this;omega
       .have:(q+1)*e<=k*e:=Wi _ hgt;rw[We]at this;omega
 |_=>simp[zfu,bad]at hs
end
section
variable {P:Program}{w:World}{L:Nat->Prop}{ι:Inj}{H:AH}{nx:Nat}{M:Nat->Prop}
structure LR(w:World)(M:Nat->Prop)(ι:Inj)(sz:Nat)(vs:List Value)(els:List (List AV)):Prop where
 size:vs.length=els.length*sz
 wide:∀(i:Nat)(c:List AV),els[i]?=some c->c.length=sz
 one:∀v∈vs,v.oneCell'=true
 rel:∀(i:Nat)(c:List AV)(j:Nat)(a:AV),els[i]?=some c->c[j]?=some a->∃v,vs[i*sz+j]?=some v/\v.oneCell'=true/\VR w M ι v a
theorem LR.nil(sz):LR w M ι sz [] []:=⟨by simp,λi c h=>by simp at h,λv h=>by simp at h,λi c j a h _=>by simp at h⟩
theorem LR.append{sz}{vs us}{es fs}(h:LR w M ι sz vs es)(k:LR w M ι sz us fs):LR w M ι sz (vs++us) (es++fs):=by
 refine⟨by rw[WJ,h.size,k.size,WJ,We],λi c b=>?_,λv d=>?_,λi c j a b o=>?_⟩
 .rw[Wac]at b;split at b
  .exact h.wide _ _ b
  .exact k.wide _ _ b
 .rcases List.mem_append.1 d with d|d
  .exact h.one v d
  .exact k.one v d
 .rw[Wac]at b;split at b
  .rename_i q;obtain⟨v,e,g,m⟩:=h.rel i c j a b o;exact⟨v,by rw[WB (Wf.1 e).1];exact e,g,m⟩
  .rename_i p;obtain⟨v,e,g,m⟩:=k.rel _ c j a b o;refine⟨v,?_,g,m⟩;have n:es.length<=i:=by omega
   have:es.length*sz<=i*sz:=Wi _ n;rw[WC (by rw[h.size];omega),h.size,show i*sz+j-es.length*sz=(i-es.length)*sz+j by rw[Nat.sub_mul];omega];exact e
theorem LR.ofCells{sz n b o}{els}(C:els.length=n)(t:∀(i:Nat)(c:List AV),els[i]?=some c->c.length=sz)(h:∀(i:Nat)(c:List AV)(j:Nat)(a:AV),els[i]?=some c->c[j]?=some a->∃v,w.cell? ⟨b,o+i*sz+j,none⟩=some v/\v.oneCell'=true/\VR w M ι v a) :
  ∃D,LR w M ι sz D els/\∀(k:Nat)(v:Value),D[k]?=some v->w.cell? ⟨b,o+k,none⟩=some v:=by
 rcases Wm sz with F|d
 .subst F
  exact⟨[],⟨by simp,t,λv h=>by simp at h,λi c j a m p=>by
   have:=t i c m;rw[Wq this]at p
   simp at p⟩,λk v h=>by simp at h⟩
 .have key:∀k,k<n*sz->∃v,w.cell? ⟨b,o+k,none⟩=some v/\v.oneCell'=true/\∃c a,els[k / sz]?=some c/\c[k % sz]?=some a/\VR w M ι v a:=by intro k q;have I:k / sz<n:=Wad (by rw[Wv];exact q);have B:k % sz<sz:=Nat.mod_lt _ d;have g:els[k / sz]?=some (els[k / sz]'(by omega)):=Wd _;have x:=t _ _ g;have u:(els[k / sz]'(by omega))[k % sz]?=some ((els[k / sz]'(by omega))[k % sz]'(by omega)):=Wd _;obtain⟨v,J,K,N⟩:=h _ _ _ _ g u;refine⟨v,?_,K,_,_,g,u,N⟩;rw[<-J,Ws,Wv,Nat.div_add_mod]
  obtain⟨V,y⟩:=XJ (α:=Value) key;refine⟨(Wj (n*sz)).map V,⟨by simp[C],t,λv Q=>?_,λi c j a m p=>?_⟩,λk v q=>?_⟩
  .obtain⟨k,q,rfl⟩:=List.mem_map.1 Q;exact(y k (List.mem_range.1 q)).2.1
  .have z:i<n:=by rw[<-C];exact(Wf.1 m).1
   have e:j<sz:=by rw[<-t i c m];exact(Wf.1 p).1
   have s:=zDH z e;obtain⟨I,B,S,R,g,x,u⟩:=y _ s;have hd:(i*sz+j) / sz=i:=by rw[Wv,Nat.mul_add_div d,Nat.div_eq_of_lt e,WW]
   have O:(i*sz+j) % sz=j:=by rw[Wv,Nat.mul_add_mod,W8 e]
   rw[hd,m]at g;cases g;rw[O,p]at x;cases x;exact⟨_,by rw[Wx,List.getElem?_range s];rfl,B,u⟩
  .obtain⟨A,rfl⟩:=zoT q;exact(y k A).1
theorem LR.src{sz}{tx e'}{n b o c}{vs}{els}(e:P.underlying tx=some (.slice e'))(h:LR w M ι sz vs els)(g:els.length=n)(d:∀(k:Nat)(v:Value),vs[k]?=some v->w.cell? ⟨b,o+k,none⟩=some v):Src P sz tx (.slice (some ⟨b,o,none⟩) n c) n vs w :=
 Xt w e _ n c vs (by rw[h.size,g]) (λj u m=>by rw[add_mid];exact d j u m) h.one
theorem zHw{r q g off n}(h:fits H (.own r q g off n)){sz els g'}(b:H.get r q=some (.row sz els g')):off+n<=els.length:=by simpa [fits,b]using h
theorem zcC{b:List (List AV)}{off n i:Nat}{c:List AV}(h:((b.drop off).take n)[i]?=some c):i<n/\b[off+i]?=some c:=by
 rw[WE]at h;split at h
 .rename_i d;exact⟨d,by rwa [WF]at h⟩
 .cases h
theorem zBt{tx e'}{sz}{yv}{y}{news}{m}(rel:RelH w L ι H nx)(A:P.underlying tx=some (.slice e'))(O:0<sz)(hy:VR w (Lt L ι H) ι yv y)(e:zcq sz y H=some news)(N:lenV y=some m)(hf:fits H y):∃F,Src P sz tx yv m F w/\LR w (Lt L ι H) ι sz F news/\news.length=m:=by
 cases hy with
 |sl _ a sz' n cap f V hn hb hc hL hv=>
  simp only[zcq]at e
  cases d:Wa sz' sz with
  |false=>rw[d]at e;cases e
  |true=>
   have:=zm d;subst this;rw[d]at e;cases e;obtain rfl:n=m:=by simpa [lenV]using N
   have k:((Wj n).map λi=>tab (f i) sz' 0).length=n:=by simp
   have C:∀(i:Nat)(c:List AV),((Wj n).map λi=>tab (f i) sz' 0)[i]?=some c->i<n/\c=tab (f i) sz' 0:=by intro i c h;rw[Wx]at h;obtain⟨q,hq,rfl⟩:=Wo.1 h;obtain⟨z,B⟩:=Wf.1 hq;simp at z B;exact⟨z,by rw[B]⟩
   by_cases S:n=0
   .subst S;exact⟨[],Xt w A a 0 cap [] (by simp) (λj u h=>by simp at h) (λu h=>by simp at h),LR.nil _,by simp⟩
   .have p:=(hc 0 0 (by omega) O).1;rw[WH,add0,add0]at p
    have t:a.spot=none:=by
     unfold World.cell? at p
     cases hs:a.spot with
     |none=>rfl
     |some s=>simp[hs]at p;split at p<;>simp at p
    obtain⟨b,o,s⟩:=a;simp only at t;subst t
    obtain⟨F,z,B⟩:=LR.ofCells (w:=w) (M:=Lt L ι H) (ι:=ι) (b:=b) (o:=o) k (sz:=sz') (λi c h=>by rw[(C i c h).2,zqC]) (λi c j x R D=>by
     obtain⟨z,B⟩:=C i c R;subst B;rw[zzF]at D;split at D
     .rename_i J;cases D;have:=hc i j z J;rw[add_mid,add_mid]at this;exact⟨_,this.1,this.2,by rw[Wp];exact zAB (hv i j z J) ι⟩
     .cases D)
    exact⟨F,z.src A k B,z,k⟩
 |sl0 _ sz' f=>
  simp only[zcq]at e
  cases d:Wa sz' sz with
  |false=>rw[d]at e;cases e
  |true=>rw[d]at e;cases e;cases N;exact⟨[],Xu w A 0,LR.nil _,rfl⟩
 |nilsl _=>cases e;cases N;exact⟨[],Xu w A 0,LR.nil _,rfl⟩
 |cut _ a=>
  cases e;cases N
  cases a with
  |none=>exact⟨[],Xu w A 0,LR.nil _,rfl⟩
  |some a=>exact⟨[],Xt w A a 0 0 [] (by simp) (λj u h=>by simp at h) (λu h=>by simp at h),LR.nil _,rfl⟩
 |own _ r q g off n a c l hl hmx hn hc ha=>
  obtain rfl:n=m:=by simpa [lenV]using N
  simp only[zcq]at e
  cases I:H.get r q with
  |none=>rw[I]at e;cases e
  |some o=>
   cases o with
   |fam sz ins=>rw[I]at e;cases e
   |row sz' els g'=>
    rw[I]at e;simp only at e
    cases d:(Wa sz' sz&&Wa g g')with
    |false=>rw[d]at e;cases e
    |true=>
     rw[d]at e;simp only[WA]at d;have z:=zm d.1;have B:=zm d.2;subst z;subst B;cases e;have U:=zHw hf I;obtain⟨l',K,ok⟩:=rel.row _ _ _ _ _ I;rw[hl]at K;cases K;have k:((els.drop off).take n).length=n:=by simp;omega
     by_cases S:n=0
     .subst S;simp only[List.take_zero]
      cases a with
      |none=>
       have Q:c=0:=by
        rcases Wm c with h|h
        .exact h
        .have:=ha h;cases this
       subst Q;exact⟨[],Xu w A 0,LR.nil _,rfl⟩
      |some a=>exact⟨[],Xt w A a 0 c [] (by simp) (λj u h=>by simp at h) (λu h=>by simp at h),LR.nil _,rfl⟩
     .rw[ha (by omega)]
      obtain⟨F,T,W⟩:=LR.ofCells (w:=w) (M:=Lt L ι H) (ι:=ι) (b:=l.block) (o:=l.off+off*l.sz) k (sz:=sz') (λi c h=>ok.wide _ _ (zcC h).2) (λi c j x R D=>by
       obtain⟨h5,X⟩:=zcC R;obtain⟨v,Y,Z,h9⟩:=ok.holds hmx _ c j x X D;refine⟨v,?_,Z,h9⟩;rw[ok.hsz,show l.off+off*sz'+i*sz'+j=l.off+(off+i)*sz'+j by rw[We];omega]
       exact Y)
      exact⟨F,T.src A k W,T,k⟩
 |_=>simp[zcq]at e
theorem zk7{t tx ty e}{i:TypeInfo}{z}(rel:RelH w L ι H nx)(ht:P.underlying t=some (.slice e))(hi:P.info? e=some i)(hz:i.zero=some z)(hzs:z.cells.size=i.size)(hpos:0<i.size)(hby:0<i.bytes){r q g nx'}(so:zDk H r q i.size)(hr:r<nx')(W:nx<=nx')(V:ι r q g=none)(I:∀g2 l2,ι r q g2=some l2->g2<=g){base:Option Addr}{n c}{oldE}{oldV}(A:LR w (Lt L ι H) ι i.size oldV oldE)(hn:oldE.length=n)(hnc:n<=c)(K:0<c->∃b o,base=some ⟨b,o,none⟩/\zCc ι H r q b/\(∀k,k<c*i.size->(w.cell? ⟨b,o+k,none⟩).isSome=true/\w.frozen? ⟨b,o+k,none⟩=false)/\∀(k:Nat)(v:Value),oldV[k]?=some v->w.cell? ⟨b,o+k,none⟩=some v)(hfz:0<c->∀{b o},base=some ⟨b,o,none⟩->FzOk w b)(hcm:c<=maxLen){yv}{m}{newE}{newV}(hs:Src P i.size tx yv m newV w)(D:LR w (Lt L ι H) ι i.size newV newE)(hm:newE.length=m)(Q:(n+m)*i.bytes<=140737488355328) :
  ∃v w' l,(XG #[t,tx] ty #[.slice base n c,yv]).run P w=.ok v w'/\Step w L ι H nx w' (ι.put r q g l) (H.set r q (.row i.size (oldE++newE) g)) nx' /\
   VR w' (Lt L (ι.put r q g l) (H.set r q (.row i.size (oldE++newE) g))) (ι.put r q g l) v (.own r q g 0 (n+m)):=by
 have hnm:n+m<=140737488355328:=by have:(n+m)*1<=(n+m)*i.bytes:=Waa _ hby;omega
 have hmax:n+m<=maxLen:=by unfold maxLen;omega
 have y:(oldE++newE).length=n+m:=by simp[hn,hm]
 have d:=A.append D;have x:∀(l l0:Loc),ι r q g=some l0->l0=l:=λl l0 h=>by rw[V]at h;cases h
 by_cases C:n+m<=c
 .rcases Wm c with Z|s
  .subst Z;have U:n=0:=by omega
   have hm0:m=0:=by omega
   subst U;subst hm0;have hnV:newV=[]:=Wq (by rw[D.size,hm];simp);subst hnV;have S:Chg w ι H r q g ⟨0,0,0,i.size⟩ w:=⟨rfl,rfl,rfl,Wc _,λ_ _ _=>rfl,λh=>by simp at h,x _,I⟩;refine⟨_,w,⟨0,0,0,i.size⟩,run_append_nothing w t tx ty e i ht hi base 0 0 (Wc _) yv hs,S.step so rel hr W (.mk' rfl (by rw[y];exact Wc _) (Wr _) (λk B=>by simp at B) (λh=>by simp at h) (λk Y B=>?_) (λk Y j a B _=>?_)),?_⟩
   .rw[Wq y]at B;simp at B
   .rw[Wq y]at B;simp at B
   .exact .own _ r q g 0 0 _ 0 _ (Inj.put_same _ _ _ _ _) (Wr _) (Wc _) (Wc _) (λh=>by omega)
  .obtain⟨b,o,rfl,T,F,p⟩:=K s;obtain⟨sz0,els0,g0,l0,hg0,hl0,hp0,hb0⟩:=T;have hle:(n+m)*i.size<=c*i.size:=Wi _ C;rw[We]at hle;have hnV:newV.length=m*i.size:=by rw[D.size,hm]
   have hoV:oldV.length=n*i.size:=by rw[A.size,hn]
   have X:∀j,j<newV.length->(w.cell? ⟨b,o+n*i.size+j,none⟩).isSome=true/\w.frozen? ⟨b,o+n*i.size+j,none⟩=false:=λj O=>by rw[Ws];exact F _ (by omega)
   have N:=run_append_room_src (P:=P) w t tx ty e i ht hi b o n c yv m newV hs C (λj O=>(X j O).1) (λj O=>(X j O).2);have S:Chg w ι H r q g ⟨b,o,c,i.size⟩ (w.setCells b (o+n*i.size) newV):=by have:=Chg.write (l:=⟨b,o,c,i.size⟩) (o:=o+n*i.size) (vs:=newV) (g:=g) rel hg0 hl0 hp0 hb0.symm (x _) (I _ _ hl0);exact⟨this.os,this.tape,this.output,this.size,this.blk,this.new,x _,I⟩
   have J:=zid w b (o+n*i.size) newV (λj O=>(X j O).1);refine⟨_,_,⟨b,o,c,i.size⟩,N,S.step so rel hr W (.mk' rfl (by rw[y];exact C) hcm (λk B=>?_) (λhp=>(hfz s rfl).setCells) d.wide (λk Y j a B O=>?_)),?_⟩
   .have h0:=F k B;rw[XF,J];refine⟨?_,h0.2⟩;split
    .rw[Wd (by omega)];rfl
    .exact h0.1
   .obtain⟨v,R,h2,h3⟩:=d.rel k Y j a B O;refine⟨v,?_,h2,S.vr so rel h3⟩
    dsimp only
    rw[J];rw[Ws];by_cases hlt:k*i.size+j<n*i.size
    .rw[if_neg (by omega)];rw[WB (by omega)]at R;exact p _ _ R
    .have hlt2:=(Wf.1 R).1;rw[WJ]at hlt2;rw[if_pos (by omega)];rw[WC (by omega),hoV]at R;rw[show o+(k*i.size+j)-(o+n*i.size)=k*i.size+j-n*i.size by omega];exact R
   .exact .own _ r q g 0 (n+m) _ c _ (Inj.put_same _ _ _ _ _) hcm C (by simp) (λ_=>by simp)
 .have hfc:(XQ i.size n (.slice base n c)).run P w.drew=.ok oldV.toArray w.drew:=by
   rcases Wm c with Z|s
   .have U:n=0:=by omega
    subst U;have:oldV=[]:=Wq (by rw[A.size,hn];simp);subst this
    cases base with
    |none=>exact run_firstCells_none w.drew i.size 0 0 c
    |some a=>exact run_firstCells_some w.drew i.size 0 a 0 c [] (by simp) (by intro _ _ h';simp at h')
   .obtain⟨b,o,rfl,_,_,p⟩:=K s;exact run_firstCells_some w.drew i.size n ⟨b,o,none⟩ n c oldV (by rw[A.size,hn]) (λj u hu=>by rw[add_mid];exact p j u hu)
  have N:=run_append_grow_src (P:=P) w t tx ty e i z ht hi hz base n c oldV hfc yv m newV hs (by omega) (by omega) (growslice_fits (by omega) Q);have hge:=grownCap_ge w (n+m) c e;have hgm:=grownCap_le_maxLen w (n+m) c e hmax
  have S:Chg w ι H r q g ⟨w.heap.size,0,grownCap w (n+m) c e,i.size⟩ (w.drew.alloc (.cells ((oldV++newV).toArray++Xb z.cells (grownCap w (n+m) c e-(n+m))) e)) :=
   ⟨rfl,rfl,rfl,by simp,λb hb _=>Xp w.drew _ b hb,λ_=>.inr (Wc _),x _,I⟩
  have hL:(oldV++newV).length=(n+m)*i.size:=by rw[WJ,A.size,D.size,hn,hm,We]
  have hsz:((oldV++newV).toArray++Xb z.cells (grownCap w (n+m) c e-(n+m))).size=grownCap w (n+m) c e*i.size:=by rw[Array.size_append,Wae,hL,size_zeroCells,hzs,<-We];congr 1;omega
  refine⟨_,_,_,N,S.step so rel hr W (.mk' rfl (by rw[y];exact hge) hgm (λk B=>?_) (λ_=>FzOk.new) d.wide (λk Y j a B O=>?_)),?_⟩
  .simp only[Wp];have e1:(w.drew.alloc (.cells ((oldV++newV).toArray++Xb z.cells (grownCap w (n+m) c e-(n+m))) e)).cell? ⟨w.heap.size,k,none⟩=_:=Xh w.drew _ _ k;have e2:(w.drew.alloc (.cells ((oldV++newV).toArray++Xb z.cells (grownCap w (n+m) c e-(n+m))) e)).frozen? ⟨w.heap.size,k,none⟩=_:=XI w.drew _ _ k;rw[e1,e2];refine⟨?_,rfl⟩;rw[Wg (by rw[hsz];exact B)];rfl
  .obtain⟨v,R,h2,h3⟩:=d.rel k Y j a B O;refine⟨v,?_,h2,S.vr so rel h3⟩;simp only[Wp];have e1:(w.drew.alloc (.cells ((oldV++newV).toArray++Xb z.cells (grownCap w (n+m) c e-(n+m))) e)).cell? ⟨w.heap.size,k*i.size+j,none⟩=_:=Xh w.drew _ _ _;rw[e1,Array.getElem?_append_left (by rw[Wae];exact(Wf.1 R).1),WR];exact R
  .exact .own _ r q g 0 (n+m) _ _ _ (Inj.put_same _ _ _ _ _) hgm hge (by simp) (λ_=>by simp)
theorem zDd{t tx ty e e':TypeId}{i:TypeInfo}{z:List AV}{X yv:Value}{x y:AV}(rel:RelH w L ι H nx)(ht:P.underlying t=some (.slice e))(R:P.underlying tx=some (.slice e'))(N:P.info? e=some i)(hz:zhC P e=some z)(d:0<i.size)(K:0<i.bytes)(hx:VR w (Lt L ι H) ι X x)(hy:VR w (Lt L ι H) ι yv y)(u:(ze8 i.size i.bytes x y H nx).side) :
  zfV P w L ι H nx (XG #[t,tx] ty #[X,yv]) (ze8 i.size i.bytes x y H nx):=by
 obtain⟨i',zv,O,T,S,_,_⟩:=zgN hz;rw[N]at O;cases O;unfold ze8 at u⊢
 cases D:zcq i.size y H with
 |none=>simp[D,bad]at u
 |some U=>
  cases W:lenV y with
  |none=>simp[D,W,bad]at u
  |some m=>
   simp only[D,W]at u⊢
   have s:∀a:Option Addr,X=.slice a 0 0->fits H y->m*i.bytes<=140737488355328 ->
     zfV P w L ι H nx (XG #[t,tx] ty #[X,yv]) ⟨fits H y/\m*i.bytes<=140737488355328,True,.own nx 0 0 0 m,H.set nx 0 (.row i.size U 0),nx+1⟩:=by
    rintro a rfl hf hb;obtain⟨vs,Y,Z,h3⟩:=zBt rel R d hy D W hf
    obtain⟨v,w',l,h4,V,J⟩:=zk7 (ty:=ty) (base:=a) (n:=0) (c:=0) (r:=nx) (q:=0) (g:=0) (nx':=nx+1) rel ht N T S d K (rel.sok _) (WL _) (WM _) (rel.freshI 0 0)
     (λg2 l2 h=>by rw[rel.freshI]at h;cases h) (LR.nil i.size) rfl (Wc _) (λh=>by omega) (λh=>by omega) (Wr _) Y Z h3 (by simpa using hb)
    refine⟨v,w',_,h4,V,?_,trivial⟩;simpa using J
   cases hx with
   |own _ r q g off n a c l hl hmx hn hc ha=>
    cases A:H.get r q with
    |none=>simp[A,bad]at u
    |some o=>
     cases o with
     |fam sz ins=>simp[A,bad]at u
     |row sz' I g'=>
      simp only[A]at u⊢;obtain⟨rfl,rfl,hle,hf,hb⟩:=u;obtain⟨vs,Y,Z,h3⟩:=zBt rel R d hy D W hf;obtain⟨l',Q,ok⟩:=rel.row _ _ _ _ _ A;rw[hl]at Q;cases Q;have B:((I.drop off).take n).length=n:=by simp;omega
      obtain⟨ovs,h4,V⟩:=LR.ofCells (w:=w) (M:=Lt L ι H) (ι:=ι) (b:=l.block) (o:=l.off+off*l.sz) B (sz:=i.size) (λi c h=>ok.wide _ _ (zcC h).2) (λp c j x N hj=>by
       obtain⟨V,J⟩:=zcC N;obtain⟨v,h7,h8,h9⟩:=ok.holds hmx _ c j x J hj;refine⟨v,?_,h8,h9⟩;rw[ok.hsz,show l.off+off*i.size+p*i.size+j=l.off+(off+p)*i.size+j by rw[We];omega]
       exact h7)
      have F:ι r q (g+1)=none:=by
       cases hq:ι r q (g+1)with
       |none=>rfl
       |some l2=>have:=rel.gen r q _ _ _ A _ _ hq;omega
      obtain⟨v,w',l2,J,h7,h8⟩:=zk7 (ty:=ty) (base:=a) (n:=n) (c:=c) (r:=r) (q:=q) (g:=g+1) (nx':=nx) rel ht N T S d K (.inl ⟨_,_,A⟩) (rel.idx _ _ _ _ hl) (Wc _) F
       (λg2 l2 h=>Nat.le_succ_of_le (rel.gen r q _ _ _ A _ _ h)) h4 B hn (λC=>by
        refine⟨l.block,l.off+off*l.sz,ha C,⟨i.size,I,g,l,A,hl,?_,rfl⟩,λk hk=>?_,V⟩
        .rw[ok.hsz];exact Wk (by omega) d
        .have hcc:(off+c)*i.size<=l.cap*i.size:=Wi _ hc;rw[We]at hcc;have:=(ok.plain hmx).there (off*i.size+k) (by omega);rw[ok.hsz,Ws]
         exact this) (λC b o D=>by
        have:=ha C;rw[D]at this;cases this
        exact(ok.plain hmx).fz (Wk (by omega) d)) (by omega) Y Z h3 hb
      exact⟨v,w',_,J,h7,h8,trivial⟩
   |nilsl _=>exact s none rfl u.1 u.2
   |cut _ a=>exact s a rfl u.1 u.2
   |_=>simp[bad]at u
end
section
variable {P:Program}{w:World}{L:Nat->Prop}{ι:Inj}{H:AH}{nx:Nat}{M:Nat->Prop}
inductive VRO(w:World)(M:Nat->Prop)(ι:Inj):Option Value->Option AV->Prop where
 |none:VRO w M ι none none
 |some {v a} (h:VR w M ι v a):VRO w M ι (some v) (some a)
def loOf:Option AV->Option Int
 |none=>some 0
 |some (.int _ k)=>some k
 |_=>none
def hiOf(n:Nat):Option AV->Option Int
 |none=>some n
 |some (.int _ k)=>some k
 |_=>none
theorem znj{lo hi}{lo' hi'}(t:VRO w M ι lo lo')(j:VRO w M ι hi hi'){a b}{n cap}(e:loOf lo'=some a)(c:hiOf n hi'=some b)(g:0<=a)(d:a<=b)(v:b<=n)(x:n<=cap):
  (Xd true n cap lo hi none).run P w=.ok (a.toNat,b.toNat,cap) w:=by
 cases t with
 |none=>
  cases e
  cases j with
  |none=>simp only[hiOf,Wn]at c;subst c;simp[Xd]
  |some h=>
   cases h with
   |int _ k q hq=>
    simp only[hiOf,Wn]at c;subst c;have:q<=(cap:Int):=by omega
    simp[Xd,Xv,asIntOf,g,d,this]
   |_=>simp[hiOf]at c
 |some u=>
  cases u with
  |int _ k p hp=>
   simp only[loOf,Wn]at e;subst e
   cases j with
   |none=>simp only[hiOf,Wn]at c;subst c;simp[Xd,Xv,asIntOf,g,d]
   |some h=>
    cases h with
    |int _ k' q hq=>
     simp only[hiOf,Wn]at c;subst c;have m:q<=(cap:Int):=by omega
     have o:0<=q:=by omega
     have s:p<=(q.toNat:Int):=by omega
     simp[Xd,Xv,asIntOf,g,m,o,s];omega
    |_=>simp[hiOf]at c
  |_=>simp[loOf]at e
theorem zFH(h:Nat)(x:AV)(d c:Option AV):zfY h x d c H nx =
  match x with
  |
   .sl e n f=>match loOf d,hiOf n c with
   |some a,some b=>⟨e=h/\0<=a/\a<=b/\b<=n,True,.sl h (b-a).toNat (λi j=>f (a.toNat+i) j),H,nx⟩
   |_,_=>bad H nx
  |
   .own r q g off n=>match H.get r q,loOf d,hiOf n c with
   |some (.row e _ p),some a,some b=>⟨e=h/\g=p/\0<=a/\a<=b/\b<=n,True,.own r q g (off+a.toNat) (b-a).toNat,H,nx⟩
   |_,_,_=>bad H nx
  |
   .nilsl=>match loOf d,hiOf 0 c with
   |some a,some b=>⟨a=0/\b=0,True,.nilsl,H,nx⟩
   |_,_=>bad H nx
  |_=>bad H nx:=by
 unfold zfY;have m:(match d with|none=>some 0|some (.int _ k)=>some k|_=>none)=loOf d:=by cases d with|none=>rfl|some v=>cases v<;>rfl
 have o:∀n:Nat,(match c with|none=>some (n:Int)|some (.int _ k)=>some k|_=>none)=hiOf n c:=λn=>by cases c with|none=>rfl|some v=>cases v<;>rfl
 simp only[m];cases x<;>first|rfl|(simp only[o])
theorem zdj{t e}{i:TypeInfo}(d:P.underlying t=some (.slice e))(c:P.info? e=some i){a:Option Addr}{n cap}{lo hi' mx}{l h m}(b:(Xd true n cap lo hi' mx).run P w=.ok (l,h,m) w) :
  (Xo t (.slice a n cap) lo hi' mx).run P w=.ok (.slice (if m=l then a else a.map (·.add (l*i.size))) (h-l) (m-l)) w:=by
 simp[Xo,Instr.slice,run_underlying d,b,sizeOf,typeInfo,c]
theorem zFE{t e}{i:TypeInfo}{xv}{x}{lo hi}{lo' hi'}(rel:RelH w L ι H nx)(I:P.underlying t=some (.slice e))(p:P.info? e=some i)(S:VR w (Lt L ι H) ι xv x)(F:VRO w (Lt L ι H) ι lo lo')(D:VRO w (Lt L ι H) ι hi hi')(d:(zfY i.size x lo' hi' H nx).side) :
  zaR P w L ι H nx (Xo t xv lo hi none) (zfY i.size x lo' hi' H nx):=by
 rw[zFH]at d⊢
 cases S with
 |sl _ ad R n cap f V N O hc hL hv=>
  simp only at d⊢
  cases k:loOf lo' with
  |none=>simp[k,bad]at d
  |some a=>
   cases m:hiOf n hi' with
   |none=>simp[k,m,bad]at d
   |some b=>
    simp only[k,m]at d⊢;obtain⟨rfl,z,s,u⟩:=d;refine⟨_,zdj I p (znj F D k m z s u N),?_,rfl,rfl,trivial⟩;have e:b.toNat-a.toNat=(b-a).toNat:=by omega
    rw[e]
    have key:∀v:Addr,(¬cap=a.toNat->v=ad.add (a.toNat*i.size))->VR w (Lt L ι H) ι (.slice (some v) (b-a).toNat (cap-a.toNat)) (.sl i.size (b-a).toNat λq j=>f (a.toNat+q) j):=by
     intro v A;refine .sl _ v _ _ _ _ (λq j=>V (a.toNat+q) j) (by omega) (by omega) (λq j Q K=>?_) (λC=>?_) (λq j Q K=>hv _ _ (by omega) K)
     .rw[A (by omega),Xk,Xk];have:=hc (a.toNat+q) j (by omega) K;rw[Xk]at this;rw[show a.toNat*i.size+(q*i.size+j)=(a.toNat+q)*i.size+j by rw[We];omega];exact this
     .have Q:0<(b-a).toNat:=by
       rcases Wm (b-a).toNat with h|h
       .rw[h]at C;simp at C
       .exact h
      have T:0<i.size:=by
       rcases Wm i.size with h|h
       .rw[h]at C;simp at C
       .exact h
      rw[A (by omega),zcP];exact hL (Wk (by omega) T)
    split
    .exact key ad (λh=>absurd ‹_› h)
    .exact key _ (λ_=>rfl)
 |sl0 _ R f=>
  simp only at d⊢
  cases k:loOf lo' with
  |none=>simp[k,bad]at d
  |some a=>
   cases m:hiOf 0 hi' with
   |none=>simp[k,m,bad]at d
   |some b=>
    simp only[k,m]at d⊢;obtain⟨rfl,z,s,u⟩:=d;refine⟨_,zdj I p (znj F D k m z s u (Wc _)),?_,rfl,rfl,trivial⟩;have J:a=0:=by omega
    have O:b=0:=by omega
    subst J;subst O;exact .sl0 _ _ _
 |nilsl _=>
  simp only at d⊢
  cases k:loOf lo' with
  |none=>simp[k,bad]at d
  |some a=>
   cases m:hiOf 0 hi' with
   |none=>simp[k,m,bad]at d
   |some b=>simp only[k,m]at d⊢;obtain⟨rfl,rfl⟩:=d;refine⟨_,zdj I p (znj F D k m (by omega) (by omega) (by omega) (Wc _)),.nilsl _,rfl,rfl,trivial⟩
 |own _ r q g off n ad c l hll hmx N hc J=>
  simp only at d⊢
  cases y:H.get r q with
  |none=>simp[y,bad]at d
  |some o=>
   cases o with
   |fam R U=>simp[y,bad]at d
   |row sz' els g'=>
    cases k:loOf lo' with
    |none=>simp[y,k,bad]at d
    |some a=>
     cases m:hiOf n hi' with
     |none=>simp[y,k,m,bad]at d
     |some b=>simp only[y,k,m]at d⊢;obtain⟨rfl,rfl,z,s,u⟩:=d;obtain⟨W,B,ok⟩:=rel.row _ _ _ _ _ y;rw[hll]at B;cases B;refine⟨_,zdj I p (znj F D k m z s u N),?_,rfl,rfl,trivial⟩;rw[show b.toNat-a.toNat=(b-a).toNat by omega];refine .own _ r q g _ _ _ _ l hll hmx (by omega) (by omega) (λC=>?_);rw[if_neg (by omega),J (by omega),Option.map_some,add_mid,ok.hsz,show l.off+off*i.size+a.toNat*i.size=l.off+(off+a.toNat)*i.size by rw[We];omega]
 |_=>simp[bad]at d
theorem zLa{t e}{i:TypeInfo}{xv}{x}(s:P.underlying t=some (.slice e))(b:P.info? e=some i)(u:VR w (Lt L ι H) ι xv x)(p:(cutR x H nx).side):
  zaR P w L ι H nx (Xo t xv none (some (.int .i64 0)) (some (.int .i64 0))) (cutR x H nx):=by
 have key:∀(a:Option Addr)(n c:Nat),(Xo t (.slice a n c) none (some (.int .i64 0)) (some (.int .i64 0))).run P w=.ok (.slice a 0 0) w:=λa n c=>by
  have d:(Xd true n c none (some (.int .i64 0)) (some (.int .i64 0))).run P w=.ok (0,0,0) w:=by simp[Xd,Xv,asIntOf]
  have:=zdj (w:=w) s b (a:=a) d;simpa using this
 cases u with
 |sl _ h v n cap f V o d j y A=>exact⟨_,key _ _ _,.cut _ _,rfl,rfl,trivial⟩
 |sl0 _ v f=>exact⟨_,key _ _ _,.cut _ _,rfl,rfl,trivial⟩
 |nilsl _=>exact⟨_,key _ _ _,.cut _ _,rfl,rfl,trivial⟩
 |cut _ a=>exact⟨_,key _ _ _,.cut _ _,rfl,rfl,trivial⟩
 |own _ r q g off n h c l k m o j z=>exact⟨_,key _ _ _,.cut _ _,rfl,rfl,trivial⟩
 |_=>simp[cutR,bad]at p
theorem zE8{t ty e}{i:TypeInfo}{z}{xv}{x}(rel:RelH w L ι H nx)(hu:P.underlying t=some (.slice e))(hi:P.info? e=some i)(hz:zhC P e=some z)(m:0<i.size)(hx:VR w (Lt L ι H) ι xv x)(hs:(ziF i.size z x H nx).side):zfV P w L ι H nx (XH #[t] ty #[xv]) (ziF i.size z x H nx):=by
 obtain⟨i',K,W,hzv,hzs,Q,hcr⟩:=zgN hz;rw[hi]at W;cases W
 cases hx with
 |own _ r q0 g off n ad c l u hmx hn hc ha=>
  cases y:H.get r q0 with
  |none=>simp[ziF,y,bad]at hs
  |some o=>
   cases o with
   |fam sz ins=>simp[ziF,y,bad]at hs
   |row sz' d g'=>
    simp only[ziF,y]at hs⊢;obtain⟨rfl,rfl,hle⟩:=hs;obtain⟨l',Y,ok⟩:=rel.row _ _ _ _ _ y;rw[u]at Y;cases Y;have C:∀l0,ι r q0 g=some l0->l0=l:=λl0 S=>by rw[u]at S;cases S;rfl
    rcases Wm n with hn0|hnpos
    .subst hn0;have R:Chg w ι H r q0 g l w:=⟨rfl,rfl,rfl,Wc _,λ_ _ _=>rfl,λm=>.inl ⟨i.size,d,g,l,y,u,m,rfl⟩,C,λg2 l2 D=>rel.gen r q0 _ _ _ y g2 l2 D⟩;have V:d.take off++Wh 0 z++d.drop (off+0)=d:=by simp
     rw[V];refine⟨.tuple #[],w,_,?_,R.step (.inl ⟨_,_,y⟩) rel (rel.idx _ _ _ _ u) (Wc _) (.mk' ok.hsz (ok.plain hmx).len hmx (ok.plain hmx).there (ok.plain hmx).fz ok.wide (λq s j a N D=>?_)),.undef _ _,trivial⟩
     .cases ad<;>simp[XH,run_underlying hu]
     .obtain⟨v,F,O,T⟩:=ok.holds hmx q s j a N D;exact⟨v,F,O,R.vr (.inl ⟨_,_,y⟩) rel T⟩
    .have had:=ha (by omega);subst had;have U:0<l.cap*l.sz:=by rw[ok.hsz];exact Wk (by omega) m
     have I:=FR.zeros (n:=n) (hcr w (Lt L ι H) ι) Q m;have hzc:(Xb K.cells n)=(Wt (n*i.size)).map λk=>K.cells[k % K.cells.size]! := by unfold Xb;rw[hzs]
     rw[<-hzc]at I;have Z:(Xb K.cells n).toList.length=n*i.size:=by rw[Array.length_toList,I.size];simp
     have hcc:(off+n)*i.size<=l.cap*i.size:=Wi _ (by omega);rw[We]at hcc;have b:∀j,j<(Xb K.cells n).toList.length->(w.cell? ⟨l.block,l.off+off*l.sz+j,none⟩).isSome=true/\w.frozen? ⟨l.block,l.off+off*l.sz+j,none⟩=false:=λj B=>by have:=(ok.plain hmx).there (off*i.size+j) (by omega);rw[ok.hsz,Ws];exact this
     have R:Chg w ι H r q0 g l (w.setCells l.block (l.off+off*l.sz) (Xb K.cells n).toList):=.write rel y u U rfl C (Wc _);have p:=zid w l.block (l.off+off*l.sz) (Xb K.cells n).toList (λj B=>(b j B).1)
     have J:∀(q:Nat)(s:List AV),(d.take off++Wh n z++d.drop (off+n))[q]?=some s->(off<=q/\q<off+n/\s=z)\/(¬(off<=q/\q<off+n)/\d[q]?=some s):=by
      intro q s A;have ht:(d.take off).length=off:=by simp;omega
      by_cases N:q<off
      .right;rw[WG,WB (by omega),WE,if_pos N]at A;exact⟨by omega,A⟩
      .by_cases D:q<off+n
       .left;rw[WG,WC (by omega),ht,WB (by simp;omega),Wu,if_pos (by omega)]at A;cases A;exact⟨by omega,D,rfl⟩
       .right;rw[WC (by simp;omega),WF]at A;refine⟨by omega,?_⟩;rw[<-A];congr 1;simp;omega
     refine⟨.tuple #[],_,_,?_,R.step (.inl ⟨_,_,y⟩) rel (rel.idx _ _ _ _ u) (Wc _) (.mk' ok.hsz ?_ hmx (λq A=>?_) (λhp=>((ok.plain hmx).fz hp).setCells) (λq s A=>?_) (λq s j a A B=>?_)),.undef _ _,trivial⟩
     .have hst:=run_storeCells_cells (P:=P) l.block (l.off+off*l.sz) (Xb K.cells n).toList 0 w (λj B=>by simpa using(b j B).1) (λj B=>by simpa using(b j B).2)
       (λv hv=>by
        obtain⟨k,hk⟩:=Wab hv;have hkl:k<n*i.size:=by rw[<-Z];exact(Wf.1 hk).1
        have N:k / i.size<n:=Wad (by rw[Wv];exact hkl);have D:k % i.size<i.size:=Nat.mod_lt _ m;obtain⟨v',F,O,_⟩:=I.rel (k / i.size) z (k % i.size) (z.getD (k % i.size) .undef) (by rw[Wu,if_pos N]) (by simp[Wl,Wd (show k % i.size<z.length by omega)]);rw[Wv,Nat.div_add_mod]at F;rw[WX]at hk;rw[hk]at F;cases F
        exact O)
      simp only[WW]at hst;have hne:¬n=0:=by omega
      simp[XH,run_underlying hu,zeroValue,typeInfo,hi,hzv,hst,hne]
     .have:=(ok.plain hmx).len;simp;omega
     .have S:=(ok.plain hmx).there q A;rw[p,XF];refine⟨?_,S.2⟩;split
      .rw[Wd (by omega)];rfl
      .exact S.1
     .rcases J q s A with ⟨_,_,rfl⟩|⟨_,h⟩
      .exact Q
      .exact ok.wide _ _ h
     .rcases J q s A with ⟨N,D,rfl⟩|⟨N,D⟩
      .obtain⟨v,F,O,T⟩:=I.rel (q-off) s j a (by rw[Wu,if_pos (by omega)]) B;refine⟨v,?_,O,R.vr (.inl ⟨_,_,y⟩) rel T⟩;have X:j<i.size:=by rw[<-Q];exact(Wf.1 B).1
       have hlt:=zDH (i:=q-off) (n:=n) (by omega) X;have he:off*i.size+(q-off)*i.size=q*i.size:=by rw[<-We];congr 1;omega
       rw[p,ok.hsz,if_pos (by omega),show l.off+q*i.size+j-(l.off+off*i.size)=(q-off)*i.size+j by omega,WX];exact F
      .obtain⟨v,F,O,T⟩:=ok.holds hmx q s j a D B;refine⟨v,?_,O,R.vr (.inl ⟨_,_,y⟩) rel T⟩;have X:j<i.size:=by rw[<-ok.wide q s D];exact(Wf.1 B).1
       rw[p,if_neg,F];rintro⟨h6,h7⟩;rw[ok.hsz]at h6 h7;rcases Nat.lt_or_ge q off with hlt|hge
       .have:(q+1)*i.size<=off*i.size:=Wi _ hlt;rw[We]at this;omega
       .have:(off+n)*i.size<=q*i.size:=Wi _ (by omega);rw[We]at this;omega
 |_=>simp[ziF,bad]at hs
inductive VRs(w:World)(M:Nat->Prop)(ι:Inj):List Value->List AV->Prop where
 |nil:VRs w M ι [] []
 |cons {v a vs asv} (h:VR w M ι v a) (t:VRs w M ι vs asv):VRs w M ι (v::vs) (a::asv)
theorem VRs.length{vs}{asv}(h:VRs w M ι vs asv):vs.length=asv.length:=by
 induction h with
 |nil=>rfl
 |cons _ _ b=>simp[b]
theorem VRs.get{vs}{asv}(h:VRs w M ι vs asv):∀(i:Nat)(v:Value)(a:AV),vs[i]?=some v->asv[i]?=some a->VR w M ι v a:=by
 induction h with
 |nil=>intro i v a h;simp at h
 |cons h _ ih=>
  intro i v a b c
  cases i with
  |zero=>simp at b c;subst b;subst c;exact h
  |succ i=>exact ih i v a (by simpa using b) (by simpa using c)
theorem VRs.append{vs us}{asv bs}(h:VRs w M ι vs asv)(k:VRs w M ι us bs):VRs w M ι (vs++us) (asv++bs):=by
 induction h with
 |nil=>exact k
 |cons h _ b=>exact .cons h b
theorem VRs.ofGet:∀(d:List Value)(c:List AV),d.length=c.length->(∀(i:Nat)(v:Value)(a:AV),d[i]?=some v->c[i]?=some a->VR w M ι v a)->VRs w M ι d c
 |[],[],_,_=>.nil
 |v::d,a::c,j,h=>.cons (h 0 v a rfl rfl) (VRs.ofGet d c (by simpa using j) (λi u b e g=>h (i+1) u b (by simpa using e) (by simpa using g)))
theorem zpd{a:Act}{K:Nat->AV}(g:KOk w M ι a.tmps K):∀{e:List Operand}{c:List AOpd},e.mapM copd=some c->VRs w M ι (e.map a.eval) (evs K c)
 |[],c,h=>by simp at h;subst h;exact .nil
 |
  x::e,c,h=>by
  simp only[WN,WO,WP,WQ,Wn]at h;obtain⟨b,j,k,d,rfl⟩:=h;exact .cons (zt g j) (zpd g d)
end
end Go.Ab
