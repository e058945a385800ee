/-
  Part 2 of the proof: how the calls of this program run, over values instead of memory, and what each function computes.
-/
import Derived.MapKept
import Derived.Carry
import Derived.Laws.BytesString
import Derived.Laws.Strings
import Derived.Laws.StructEq
import Derived.Maps.RangeRun
import Derived.ChangeKeysEq
import Derived.Lib.AppendZeros
import Derived.RangeFuncCalls
import Derived.RangeFuncBound
import Derived.RangeFuncRecord
import Derived.Test.YtmlhipilbnjhiaaGreatQa
set_option maxRecDepth 100000
set_option linter.unusedVariables false
set_option linter.unusedSimpArgs false
set_option linter.unnecessarySimpa false
set_option linter.unusedSectionVars false
open Go.Sem renaming run_bind->Xa,run_pure->XA
open Go.Builtin renaming zeroCells->Xb,append_->Xi,len_->Xn,delete_->Xs,max_->XE,min_->XF,firstCells->XG,cap_->XM,min2->XU,max2->XV,lenOf->XW,clear_->XX
open Go.Result renaming andThen_ok->Xc
open Go.Ab.AH renaming look->Xd,get->Xt
open Go.Next renaming value->Xe
open Pure renaming pure->Xf
open Go.World renaming freeze->Xg,cell?_alloc_new->Xp,cell?->Xv,frozen?_alloc_new->XS
open Go.Ab.Inj renaming put_same->Xh
open Go.Instr renaming findKey->Xj,findNow->Xk,mapUpdate->Xr,index->Xu,sameNow->Xx,sameBits->Xy,lookup->Xz,keyThatStays->XB,checkKey->XI,range->XJ,indexAt->XK,sliceBounds->XO,entry->XQ,build->XR,loadAt->XT
open Go.MapKept renaming run_getObj_map->Xl,run_setObj_map->Xm,heap_set->XC
open Go.Value renaming int->Xo
open Go.RowKit.Below renaming heap_alloc->Xq
open Go.Op renaming eqFields->Xw,equalIn->XH,eqItems->XL,stringOp->XN,equal->XP
open Go.ChangeMaps renaming setBlock->XD
open Option renaming bind_eq_some_iff→Wa,bind_eq_bind→Wc,map_eq_some_iff→We,map_some→WE,getD_some→WP,pure_def→WW,isSome_iff_exists→W0,bind_some→W8
open Option.some renaming injEq→Wd
open Nat renaming le_refl→Wf,add_mul→Wh,lt_succ_self→Wn,le_succ→Wo,zero_le→Wr,mul_one→Wt,mul_le_mul_right→Wu,zero_add→Wv,sub_zero→Wz,mul_pos→WC,not_lt→WI,add_sub_cancel_left→WO,pos_of_ne_zero→W5,eq_zero_or_pos→Wae
open Array renaming toArray_toList→Wg,getElem?_toList→Wk,getElem?_eq_getElem→Wl,getElem?_eq_some_iff→Wq,getElem?_modify→Ws,length_toList→Wy,getElem?_append_left→WM,toList_map→W3,getElem?_push→W9,toList_eraseIdxIfInBounds→Waa,size_append→Waf
open List renaming getElem?_cons_succ→Wi,getElem?_eq_getElem→Wm,getElem?_eq_some_iff→Wp,getElem?_append_left→Ww,getElem?_append_right→Wx,getElem?_toArray→WA,getElem?_map→WB,eq_nil_of_length_eq_zero→WD,getElem?_set→WF,length_append→WG,mapM_cons→WH,length_map→WK,map_cons→WL,drop_eq_getElem_cons→WN,getElem?_cons_zero→WQ,getElem?_eraseIdx→WR,length_drop→WV,mem_of_getElem?→WX,getD_eq_getElem?_getD→WY,drop_of_length_le→W6,length_eraseIdx→Wab,getElem?_take→Wac,getElem?_drop→Wad,append_assoc→Wag,size_toArray→Wah
open Prod.mk renaming injEq→Wj
open Bool renaming eq_iff_iff→WJ,and_assoc→WS,and_true→WU,and_eq_true→WZ,false_eq_true→W7
namespace Go.Ab
open Go.RowKit
section
variable {P:Program}{w:World}{L:Nat->Prop}{ι:Inj}{H:AH}{nx:Nat}{M:Nat->Prop}
theorem znf(a b:ByteArray):(a.toList == b.toList)=decide (a=b):=by rw[WJ,decide_eq_true_iff,beq_iff_eq,ByteArray.toList_eq,ByteArray.toList_eq];exact⟨Go.WideShapes.bytes_inj,λh=>by rw[h]⟩
theorem zFP{t}{neg}{x y}{xv yv}{a b}(d:VR w (Lt L ι H) ι xv a)(e:VR w (Lt L ι H) ι yv b)(c:(seqR neg a b H nx).side):
  zaR P w L ι H nx (do eqGuard (bif neg then .neq else .eql) t x y xv yv;binOp (bif neg then .neq else .eql) t xv yv) (seqR neg a b H nx):=by
 cases d with
 |str _ s h1=>
  cases e with
  |str _ u h2=>
   simp only[seqR];cases neg
   .refine⟨.bool (s.toList == u.toList),?_,?_,rfl,rfl,trivial⟩
    .simp[Xa,eqGuard,binOp,XN]
    .rw[znf];exact .bool _ _
   .refine⟨.bool (!(s.toList == u.toList)),?_,?_,rfl,rfl,trivial⟩
    .simp[Xa,eqGuard,binOp,XN]
    .rw[znf];exact .bool _ _
  |_=>simp[seqR,bad]at c
 |_=>cases b<;>simp[seqR,bad]at c
theorem zyu{s:ByteArray}{i}(h:i<s.size):zyb s i=(s[i]'h).toNat:=by
 unfold zyb;have:s.data.toList.getD i 0=s[i]'h:=by rw[WY,Wk,Wl h];rfl
 rw[this]
theorem zBf(n:UInt8):InR .u8 (n.toNat:Int):=by have:=n.toNat_lt;simp only[InR,IntKind.min,IntKind.max,IntKind.signed,IntKind.bits,if_false];exact⟨by omega,by simp;omega⟩
theorem zHE{t}{xv iv}{x i}(e:P.underlying t=some .string)(g:VR w (Lt L ι H) ι xv x)(d:VR w (Lt L ι H) ι iv i)(c:(zwK x i H nx).side):
  zaR P w L ι H nx (Xu t xv iv) (zwK x i H nx):=by
 cases g with
 |str _ s h1=>
  cases d with
  |int _ k n h2=>
   simp only[zwK]at c⊢;have b:n.toNat<s.size:=by omega
   refine⟨.int .u8 (zyb s n.toNat),?_,?_,rfl,rfl,trivial⟩
   .rw[run_index_string w t s k n e,dif_pos ⟨c.1,c.2⟩,zyu b];try rfl
   .rw[zyu b];exact .int _ _ _ (zBf _)
  |_=>simp[zwK,bad]at c
 |_=>cases i<;>simp[zwK,bad]at c
theorem zEg{mx}{ts}{ty}{xv yv}{x y}(d:VR w (Lt L ι H) ι xv x)(e:VR w (Lt L ι H) ι yv y)(c:(minR mx x y H nx).side):
  zaR P w L ι H nx (bif mx then XE ts ty #[xv,yv]else XF ts ty #[xv,yv]) (minR mx x y H nx):=by
 cases d with
 |int _ k a h1=>
  cases e with
  |int _ k' b h2=>
   simp only[minR]at c⊢;subst c;cases mx
   .exact⟨.int k (if b<a then b else a),by simp[XF,XU],(by split<;>exact .int _ _ _ ‹_›),rfl,rfl,trivial⟩
   .exact⟨.int k (if a<b then b else a),by simp[XE,XV],(by split<;>exact .int _ _ _ ‹_›),rfl,rfl,trivial⟩
  |_=>simp[minR,bad]at c
 |_=>cases y<;>simp[minR,bad]at c
theorem zv2(l:List UInt8):LR w M ι 1 (l.map λb=>Xo .u8 b.toNat) (l.map zms):=by
 refine⟨by simp,λi c h=>?_,λv h=>?_,λi c j a d e=>?_⟩
 .rw[WB]at h;obtain⟨b,_,rfl⟩:=We.1 h;rfl
 .obtain⟨b,_,rfl⟩:=List.mem_map.1 h;rfl
 .rw[WB]at d;obtain⟨b,g,rfl⟩:=We.1 d
  cases j with
  |zero=>cases e;exact⟨.int .u8 b.toNat,by rw[Wt,Nat.add_zero,WB,g];rfl,rfl,.int _ _ _ (zBf b)⟩
  |succ j=>cases e
theorem zk0{e}(h:zou P e=true):P.underlying e=some (.int .u8)/\∃i,P.info? e=some i/\i.size=1/\i.bytes=1/\zhC P e=some [.int .u8 0]:=by
 unfold zou at h;simp only[WZ]at h;obtain⟨⟨d,b⟩,c⟩:=h;refine⟨?_,?_⟩
 .split at d
  .assumption
  .cases d
 .split at b
  .rename_i i g;simp only[WZ,beq_iff_eq]at b;refine⟨i,g,b.1,b.2,?_⟩;split at c
   .rename_i n j;rw[j];simp only[beq_iff_eq]at c;rw[c]
   .cases c
  .cases b
theorem zG5{t Z ty e:TypeId}{xv yv:Value}{x y:AV}(rel:RelH w L ι H nx)(ht:P.underlying t=some (.slice e))(htx:P.underlying Z=some .string)(hb:zou P e=true)(hx:VR w (Lt L ι H) ι xv x)(hy:VR w (Lt L ι H) ι yv y)(A:(zqU x y H nx).side):zfV P w L ι H nx (Xi #[t,Z] ty #[xv,yv]) (zqU x y H nx):=by
 obtain⟨_,i,R,J,h2,hz⟩:=zk0 hb;obtain⟨i',zv,S,W,V,_,_⟩:=zgN hz;rw[R]at S;cases S;have u:0<i.size:=by omega
 have O:0<i.bytes:=by omega
 cases hy with
 |str _ s hsz=>
  have src:Src P i.size Z (.string s) s.size (byteCells s) w:=by rw[J];exact Src.ofString w htx s
  have lr:LR w (Lt L ι H) ι i.size (byteCells s) (s.data.toList.map zms):=by rw[J];exact zv2 _
  have U:(s.data.toList.map zms).length=s.size:=by rw[WK,Wy];rfl
  have d:∀a:Option Addr,xv=.slice a 0 0->s.size<=140737488355328 ->
    zfV P w L ι H nx (Xi #[t,Z] ty #[xv,.string s]) ⟨s.size<=140737488355328,True,.own nx 0 0 0 s.size,H.set nx 0 (.row 1 (s.data.toList.map zms) 0),nx+1⟩:=by
   rintro a rfl C
   obtain⟨v,w',l,h4,N,K⟩:=zk7 (ty:=ty) (base:=a) (n:=0) (c:=0) (r:=nx) (q:=0) (g:=0) (nx':=nx+1) rel ht R W V u O (rel.sok _) (Wn _) (Wo _) (rel.freshI 0 0)
    (λg2 l2 h=>by rw[rel.freshI]at h;cases h) (LR.nil i.size) rfl (Wf _) (λh=>by omega) (λh=>by omega) (Wr _) src lr U (by rw[h2];simpa using C)
   rw[J]at N K;refine⟨v,w',_,h4,N,?_,trivial⟩;simpa using K
  cases hx with
  |own _ r q g off n a c l hl hmx hn hc ha=>
   cases F:H.get r q with
   |none=>simp[zqU,F,bad]at A
   |some o=>
    cases o with
    |fam sz ins=>simp[zqU,F,bad]at A
    |row sz' B g'=>
     simp only[zqU,F]at A⊢;obtain⟨rfl,rfl,hle,C⟩:=A;obtain⟨l',T,ok⟩:=rel.row _ _ _ _ _ F;rw[hl]at T;cases T;have z:((B.drop off).take n).length=n:=by simp;omega
     have m:=ok;rw[<-J]at m
     obtain⟨ovs,h4,N⟩:=LR.ofCells (w:=w) (M:=Lt L ι H) (ι:=ι) (b:=l.block) (o:=l.off+off*l.sz) z (sz:=i.size) (λi c h=>m.wide _ _ (zcC h).2) (λp c j x R hj=>by
      obtain⟨N,K⟩:=zcC R;obtain⟨v,X,Y,h9⟩:=m.holds hmx _ c j x K hj;refine⟨v,?_,Y,h9⟩;rw[m.hsz,show l.off+off*i.size+p*i.size+j=l.off+(off+p)*i.size+j by rw[Wh];omega]
      exact X)
     have I:ι r q (g+1)=none:=by
      cases hq:ι r q (g+1)with
      |none=>rfl
      |some l2=>have:=rel.gen r q _ _ _ F _ _ hq;omega
     have Q:H.get r q=some (.row i.size B g):=by rw[J];exact F
     obtain⟨v,w',l2,K,X,Y⟩:=zk7 (ty:=ty) (base:=a) (n:=n) (c:=c) (r:=r) (q:=q) (g:=g+1) (nx':=nx) rel ht R W V u O (.inl ⟨_,_,Q⟩) (rel.idx _ _ _ _ hl) (Wf _) I
      (λg2 l2 h=>Nat.le_succ_of_le (rel.gen r q _ _ _ F _ _ h)) h4 z hn (λD=>by
       refine⟨l.block,l.off+off*l.sz,ha D,⟨i.size,B,g,l,Q,hl,?_,rfl⟩,λk hk=>?_,N⟩
       .rw[m.hsz];exact WC (by omega) u
       .have hcc:(off+c)*i.size<=l.cap*i.size:=Wu _ hc;rw[Wh]at hcc;have:=(m.plain hmx).there (off*i.size+k) (by omega);rw[m.hsz,Nat.add_assoc]
        exact this) (λD b o he=>by
       have:=ha D;rw[he]at this;cases this
       exact(m.plain hmx).fz (WC (by omega) u)) (by omega) src lr U (by rw[h2,Wt];exact C)
     rw[J]at X Y;exact⟨v,w',_,K,X,Y,trivial⟩
  |nilsl _=>exact d none rfl A
  |cut _ a=>exact d a rfl A
  |_=>simp[zqU,bad]at A
 |_=>cases x<;>simp[zqU,bad]at A
end
section
variable {P:Program}{w:World}{L:Nat->Prop}{ι:Inj}{H:AH}{nx:Nat}{M:Nat->Prop}
theorem zuU:∀(l:List UInt8)(s:ByteArray),(l.map λb=>(b.toNat:Int)).foldl (λr n=>r.push (UInt8.ofNat n.toNat)) s=⟨(s.data.toList++l).toArray⟩
 |[],s=>by simp
 |
  b::l,s=>by
  simp only[WL,List.foldl_cons];rw[zuU l];have e:UInt8.ofNat ((b.toNat:Int)).toNat=b:=by simp
  rw[e];congr 1;simp[ByteArray.push]
theorem zs6:∀ {b:List (List AV)}{l:List UInt8},zgu b=some l->l.length=b.length
 |[],l,h=>by cases h;rfl
 |
  c::r,l,h=>by
  unfold zgu at h;split at h
  .obtain⟨e,d,rfl⟩:=We.1 h;simp[zs6 d]
  .cases h
theorem LR.bytes:∀ {g:List (List AV)}{d:List Value}{l:List UInt8},LR w M ι 1 d g->zgu g=some l->d=l.map λb=>Xo .u8 (b.toNat:Int)
 |
  [],d,l,h,e=>by
  cases e;have:=h.size;exact WD (by simpa using this)
 |
  c::r,d,l,h,e=>by
  unfold zgu at e;split at e
  .rename_i n;obtain⟨B,p,rfl⟩:=We.1 e
   cases d with
   |nil=>have:=h.size;simp at this
   |cons v d=>
    obtain⟨C,m,A,q⟩:=h.rel 0 _ 0 _ rfl rfl;simp at m;subst m
    cases q with
    |int _ _ _ hr=>
     have x:0<=n/\n<=255:=hr;have z:LR w M ι 1 d r:=by refine⟨by have:=h.size;simp at this⊢;omega,λi c k=>h.wide (i+1) c (by simpa using k),λv y=>h.one v (by simp[y]),λi c j a k u=>?_⟩;obtain⟨v,o,s,t⟩:=h.rel (i+1) c j a (by simpa using k) u;refine⟨v,?_,s,t⟩;rw[show(i+1)*1+j=(i*1+j)+1 by omega,Wi]at o;exact o
     rw[LR.bytes z p];simp only[WL,List.cons.injEq,Value.int.injEq,true_and,and_true];rw[UInt8.toNat_ofNat'];omega
  .cases e
theorem zJH{t d e}{xv}{x}(rel:RelH w L ι H nx)(Q:P.underlying t=some (.slice e))(hd:P.underlying d=some .string)(D:zou P e=true)(O:VR w (Lt L ι H) ι xv x)(z:(b2sR x H nx).side):
  zaR P w L ι H nx (convert t d xv) (b2sR x H nx):=by
 obtain⟨I,i,Y,U,W,Z⟩:=zk0 D;unfold b2sR at z⊢
 cases C:zcq 1 x H with
 |none=>simp[C,bad]at z
 |some els=>
  cases u:zgu els with
  |none=>simp[C,u,bad]at z
  |some l=>
   simp only[C,u]at z⊢;obtain⟨R,y⟩:=z;obtain⟨m,j⟩:=W0.1 y;obtain⟨vs,o,T,N⟩:=zBt rel Q (Wn 0) O C j R;have B:=T.bytes u;have J:=zs6 u
   have s:l.length<=big:=by
    rw[J,N]
    cases O with
    |sl _ a sz n cap f V S D=>cases j;exact D
    |sl0=>cases j;exact Wr _
    |nilsl=>cases j;exact Wr _
    |cut=>cases j;exact Wr _
    |own _ r q g off n a c l u K S p X=>cases j;unfold maxLen at K;unfold big;omega
    |_=>cases j
   have A:(⟨l.toArray⟩:ByteArray).size<=big:=by show l.toArray.size<=big;simpa using s
   refine⟨.string ⟨l.toArray⟩,?_,.str _ _ A,rfl,rfl,A⟩;have conv:∀h,xv=h->(∃a n c,h=.slice a n c)->(convert t d h).run P w=(Conv.bytesToString h).run P w:=by rintro h _ ⟨a,n,c,rfl⟩;cases a<;>simp[convert,Xa,run_underlying Q,run_underlying hd,run_underlying I]
   have k:∃a n c,xv=.slice a n c:=by cases O<;>simp only[lenV]at j<;>first|(cases j;done)|exact⟨_,_,_,rfl⟩
   obtain⟨a,n,c,rfl⟩:=k;rw[conv _ rfl ⟨a,n,c,rfl⟩];have p:=o.cells;have v:=o.len w;simp[XW]at v;subst v
   cases a with
   |none=>
    simp[XG]at p;rw[B]at p
    have:l=[]:=by
     cases l with
     |nil=>rfl
     |cons b l=>simp at p
    subst this;simp[Conv.bytesToString];rfl
   |some a=>
    have F:(loadCells a n).run P w=.ok ((l.map λb=>(b.toNat:Int)).map (Xo .u8)).toArray w:=by simp only[XG,Wt]at p;rw[p,B,List.map_map];rfl
    rw[run_bytesToString w a n c _ F,zuU];simp
theorem zoP(a:Addr)(n)(x:Addr):(w.freeze a n).cell? x=w.cell? x:=by
 unfold Xg;by_cases b:n=0
 .rw[if_pos b]
 .rw[if_neg b];unfold Xv;simp only[Ws];by_cases h:a.block=x.block
  .rw[if_pos h]
   cases c:w.heap[x.block]? with
   |none=>rfl
   |some o=>cases o<;>rfl
  .rw[if_neg h]
theorem zrG{a:Addr}{n b}(h:b≠a.block):(w.freeze a n).heap[b]?=w.heap[b]? := by
 unfold Xg;split
 .rfl
 .simp only[Ws];rw[if_neg (Ne.symm h)]
theorem zsz{a:Addr}{n}:(w.freeze a n).heap.size=w.heap.size:=by unfold Xg;split<;>simp
theorem zuP{b d j}{c}{e}(m:w.heap[b]?=some (.cells c e (d,j)))(n:d=j\/c.size<=d):
  ∃g k,(w.freeze ⟨b,c.size,none⟩ 1).heap[b]?=some (.cells c e (g,k))/\c.size<=g:=by
 unfold Xg;rw[if_neg (by decide)];simp only[Ws,if_true,m,WE];by_cases h:d=j
 .refine⟨c.size,c.size+1,?_,Wf _⟩;simp[h]
 .have:=n.resolve_left h;refine⟨min d c.size,max j (c.size+1),?_,by omega⟩;simp[h]
theorem zu3{g:World}{b h k:Nat}{c:Array Value}{e:TypeId}(j:g.heap[b]?=some (.cells c e (h,k)))(m:c.size<=h){x:Nat}(d:(g.cell? ⟨b,x,none⟩).isSome=true):g.frozen? ⟨b,x,none⟩=false:=by unfold Xv at d;unfold World.frozen?;rw[j]at d⊢;simp at d;simp;omega
theorem zj8{a:Addr}{c}{e}{fr}(b:w.heap[a.block]?=some (.cells c e fr)):(markStringish a).run P w=.ok () (w.freeze ⟨a.block,c.size,none⟩ 1):=by
 have g:w.shape? a.block=some (e,c.size):=by unfold World.shape?;rw[b]
 have d:(shape a.block).run P w=.ok (some (e,c.size)) w:=by show Result.ok (w.shape? a.block) w=_;rw[g]
 simp[markStringish,Xa,d]
theorem zGS{t e}{xv}{x}(rel:RelH w L ι H nx)(ht:P.underlying t=some (.slice e))(V:zou P e=true)(hx:VR w (Lt L ι H) ι xv x)(D:(zr4 x H nx).side):
  zfV P w L ι H nx (convert t t xv) (zr4 x H nx):=by
 obtain⟨O,i,A,h1,U,hz⟩:=zk0 V
 cases hx with
 |own _ r q g off n a c l y hmx Q J ha=>
  cases m:H.get r q with
  |none=>simp[zr4,m,bad]at D
  |some o=>
   cases o with
   |fam sz ins=>simp[zr4,m,bad]at D
   |row sz els g'=>
    simp only[zr4,m]at D⊢;obtain⟨rfl,rfl,hn0⟩:=D;obtain⟨l',B,ok⟩:=rel.row _ _ _ _ _ m;rw[y]at B;cases B;have N:=ha (by omega);subst N;have h:0<l.cap*l.sz:=by rw[ok.hsz];omega
    have p:=ok.plain hmx;have I:=p.there 0 (by rw[<-ok.hsz];exact h)
    have d:∃u F S A,w.heap[l.block]?=some (.cells u F (S,A)):=by
     have:=I.1;unfold Xv at this
     cases z:w.heap[l.block]? with
     |none=>rw[z]at this;cases this
     |some o=>
      rw[z]at this;cases o<;>simp at this
      rename_i u F T;exact⟨u,F,T.1,T.2,rfl⟩
    obtain⟨u,F,S,hi',d⟩:=d;obtain⟨lo',hi2,s,C⟩:=zuP d (p.fz (by rw[<-ok.hsz];exact h) _ _ _ _ d);have K:Chg w ι H r q g l (w.freeze ⟨l.block,u.size,none⟩ 1):=by refine⟨by unfold Xg;rfl,by unfold Xg;rfl,by unfold Xg;rfl,by rw[zsz];exact Wf _,λb V Q=>?_,λhp=>.inl ⟨1,els,g,l,m,y,hp,rfl⟩,λl0 I=>by rw[y]at I;cases I;rfl,λW l2 U=>rel.gen r q _ _ _ m W l2 U⟩;exact zrG (λe=>Q ⟨1,els,g,l,m,y,h,e.symm⟩)
    have R:=K.step (.inl ⟨_,_,m⟩) rel (rel.idx _ _ _ _ y) (Wf _) (sz:=1) (els:=els) (.mk' ok.hsz p.len hmx (λk hk=>by
     have:=p.there k hk;have J:((w.freeze ⟨l.block,u.size,none⟩ 1).cell? ⟨l.block,l.off+k,none⟩).isSome=true:=by rw[zoP];exact this.1
     exact⟨J,zu3 s C J⟩) (λ_ c e S A z=>by
      rw[s]at z;cases z
      exact .inr C) ok.wide (λi c j a A hj=>by
     obtain⟨v,X,Y,Z⟩:=ok.holds hmx i c j a A hj
     exact⟨v,by rw[zoP];exact X,Y,K.vr (.inl ⟨_,_,m⟩) rel Z⟩))
    refine⟨_,_,_,?_,R,K.vr (.inl ⟨_,_,m⟩) rel (.own ι r q g off n _ c l y hmx Q J (λ_=>rfl)),trivial⟩;simp[convert,Xa,run_underlying ht,run_underlying O,zj8 (a:=⟨l.block,l.off+off*l.sz,none⟩) d]
 |_=>simp[zr4,bad]at D
theorem zLd{t d e:TypeId}{T:Value}{x:AV}(rel:RelH w L ι H nx)(ht:P.underlying t=some .string)(hd:P.underlying d=some (.slice e))(C:zou P e=true)(hx:VR w (Lt L ι H) ι T x)(hs:(s2bR x H nx).side):
  zfV P w L ι H nx (convert t d T) (s2bR x H nx):=by
 obtain⟨D,i,F,h1,B,hz⟩:=zk0 C
 cases hx with
 |str _ s hsz=>
  simp only[s2bR];have J:s.size<=maxLen:=by unfold maxLen;unfold big at hsz;omega
  have q:=grownCap_ge w s.size 0 e;have u:=grownCap_le_maxLen w s.size 0 e J;generalize n:grownCap w s.size 0 e=cap at q u;generalize p:(s.data.map λb=>Xo .u8 b.toNat)++Array.replicate (cap-s.size) (Xo .u8 0)=g;have W:g.size=cap:=by rw[<-p];simp;show s.size+_=_;omega
  have m:(w.drew.alloc (.cells g e)).heap[w.heap.size]?=some (.cells g e (0,0)):=by have:(w.drew.alloc (.cells g e)).heap=w.heap.push (.cells g e):=rfl;rw[this];simp
  obtain⟨lo',X,o,y⟩:=zuP m (.inl rfl);have h:∀k,((w.drew.alloc (.cells g e)).freeze ⟨w.heap.size,g.size,none⟩ 1).cell? ⟨w.heap.size,k,none⟩=g[k]? := λk=>by rw[zoP];exact Xp w.drew _ _ k
  have N:Chg w ι H nx 0 0 ⟨w.heap.size,0,cap,1⟩ ((w.drew.alloc (.cells g e)).freeze ⟨w.heap.size,g.size,none⟩ 1) :=
   ⟨by unfold Xg;rfl,by unfold Xg;rfl,by unfold Xg;rfl,by rw[zsz];simp,λb C _=>by rw[zrG (by show b≠w.heap.size;omega)];exact Xq w.drew _ b C,λ_=>.inr (Wf _),
    λl0 O=>(by rw[rel.freshI]at O;cases O),λg2 l2 B=>(by rw[rel.freshI]at B;cases B)⟩
  have z:(s.data.toList.map zms).length=s.size:=by rw[WK,Wy];rfl
  have K:=N.step (rel.sok 1) rel (Wn _) (Wo _) (els:=s.data.toList.map zms) (.mk' rfl (by rw[z];exact q) u (λk I=>by
   have Z:k<cap:=by simpa using I
   have R:(((w.drew.alloc (.cells g e)).freeze ⟨w.heap.size,g.size,none⟩ 1).cell? ⟨w.heap.size,0+k,none⟩).isSome=true:=by rw[Wv,h,Wl (by omega)];rfl
   exact⟨R,zu3 o y R⟩) (λ_ c e lo F S=>by
    rw[o]at S;cases S
    exact .inr y) (λi c F=>(zv2 (w:=w) (M:=Lt L ι H) (ι:=ι) s.data.toList).wide i c F) (λk c j a I Y=>by
   obtain⟨v,Q,U,V⟩:=(zv2 (w:=w) (M:=Lt L ι H) (ι:=ι) s.data.toList).rel k c j a I Y;refine⟨v,?_,U,N.vr (rel.sok 1) rel V⟩;show Xv _ ⟨w.heap.size,0+k*1+j,none⟩=_;rw[Wv,h,<-p];have A:=(Wp.1 Q).1;rw[WK,Wy]at A;rw[WM (by simpa using A),<-Wk,W3]
   exact Q))
  refine⟨.slice (some ⟨w.heap.size,0,none⟩) s.size cap,_,_,?_,K,.own _ nx 0 0 0 s.size _ cap _ (Xh _ _ _ _ _) u q (by simp) (λ_=>by simp),trivial⟩;have hm:=zj8 (P:=P) (a:=⟨w.heap.size,0,none⟩) m;simp[convert,Xa,run_underlying ht,run_underlying hd,run_underlying D,Conv.stringToBytes,Question.forced,zc3];simp only[grownCap]at n;rw[n,p,hm];rfl
 |_=>simp[s2bR,bad]at hs
end
section
variable {P:Program}{w:World}{L:Nat->Prop}{ι:Inj}{H:AH}{nx:Nat}{M:Nat->Prop}
theorem zkX{k k'}{b c:Int}{n cap:Nat}(d:0<=b)(h:b<=c)(e:c<=cap):
  (XO true n cap none (some (.int k b)) (some (.int k' c))).run P w=.ok (0,b.toNat,c.toNat) w:=by
 have g:0<=c:=by omega
 have j:b<=(c.toNat:Int):=by omega
 simp[XO,Instr.sliceBound,asIntOf,d,e,g];omega
theorem zK4{t e}{i:TypeInfo}{xv hv mv}{x h m}(rel:RelH w L ι H nx)(A:P.underlying t=some (.slice e))(d:P.info? e=some i)(Q:VR w (Lt L ι H) ι xv x)(N:VR w (Lt L ι H) ι hv h)(O:VR w (Lt L ι H) ι mv m)(p:(sl3R i.size x h m H nx).side) :
  zaR P w L ι H nx (Instr.sliceAt t xv none (some hv) (some mv)) (sl3R i.size x h m H nx):=by
 cases N with
 |int _ k b hb=>
  cases O with
  |int _ k' c hc=>
   cases Q with
   |sl _ ad J n cap f V hn hbg hcc hL hv=>
    simp only[sl3R]at p⊢;obtain⟨rfl,u,v,z⟩:=p;refine⟨_,zdj A d (zkX u v (by omega)),?_,rfl,rfl,trivial⟩;simp only[Wz,Nat.zero_mul]
    have key:∀s:Addr,s=ad->VR w (Lt L ι H) ι (.slice (some s) b.toNat c.toNat) (.sl i.size b.toNat f):=by
     rintro s rfl
     exact .sl _ _ _ _ _ _ V (by omega) (by omega) (λq j K I=>hcc q j (by omega) I) (λy=>hL (by
      have K:0<b.toNat:=W5 (λh=>by rw[h]at y;simp at y);have R:0<i.size:=W5 (λh=>by rw[h]at y;simp at y)
      exact WC (by omega) R)) (λq j K I=>hv q j (by omega) I)
    split
    .exact key _ rfl
    .exact key _ (by simp[Addr.add])
   |sl0 _ J f=>
    simp only[sl3R]at p⊢;obtain⟨rfl,u,v,z⟩:=p;have C:b=0:=by simp at z;omega
    have D:c=0:=by simp at z;omega
    subst C D;refine⟨_,zdj A d (zkX u v (by omega)),?_,rfl,rfl,trivial⟩;simp;exact .sl0 _ _ _
   |nilsl _=>simp only[sl3R]at p⊢;obtain⟨rfl,rfl⟩:=p;refine⟨_,zdj A d (zkX (by omega) (by omega) (by omega)),?_,rfl,rfl,trivial⟩;simp;exact .nilsl _
   |own _ r q g off n a cp l hl hmx hn hcl ha=>
    cases F:H.get r q with
    |none=>simp[sl3R,F,bad]at p
    |some o=>
     cases o with
     |fam J S=>simp[sl3R,F,bad]at p
     |row J els g'=>
      simp only[sl3R,F]at p⊢;obtain⟨rfl,rfl,u,v,z⟩:=p;refine⟨_,zdj A d (zkX u v (by omega)),?_,rfl,rfl,trivial⟩;simp only[Wz,Nat.zero_mul];have key:∀B:Option Addr,B=a->VR w (Lt L ι H) ι (.slice B b.toNat c.toNat) (.own r q g off b.toNat):=by rintro B rfl;exact .own _ r q g off _ _ c.toNat l hl hmx (by omega) (by omega) (λy=>ha (by omega))
      split
      .exact key _ rfl
      .exact key _ (by cases a<;>simp[Addr.add])
   |_=>simp[sl3R,bad]at p
  |_=>simp[sl3R,bad]at p
 |_=>cases m<;>simp[sl3R,bad]at p
theorem zq1{t}{s}{cs}{i}{v}(b:zrn P t=some s)(e:cs[i]?=some v):(part t cs i).run P w=.ok v w:=by
 unfold zrn at b;split at b<;>first|(cases b;done)|skip
 all_goals
  rename_i d;have c:(isAgg t).run P w=.ok false w:=zfS d w;simp[part,Xa,c,e]
theorem zlx{s}{a b}{l m}{t}(h:zT (0::s) (a::l) (b::m)=some t):∃k x y c,a=.int k x/\b=.int k y/\zT s l m=some c/\t=(decide (x=y)&&c):=by
 unfold zT at h;split at h
 all_goals first
  |(cases h;done)
  |(rename_i d e g;cases d;done)
  |skip
 .rename_i k x q p y u d e g;cases d;cases e;cases g;split at h
  .rename_i o;obtain⟨c,j,n⟩:=We.1 h;exact⟨_,_,_,c,rfl,by rw[o],j,n.symm⟩
  .cases h
theorem zlw{s}{a b}{l m}{t}(h:zT (1::s) (a::l) (b::m)=some t):∃x y c,a=.str x/\b=.str y/\zT s l m=some c/\t=(decide (x=y)&&c):=by
 unfold zT at h;split at h
 all_goals first
  |(cases h;done)
  |(rename_i d e g;cases d;done)
  |skip
 .rename_i d e g;cases d;cases e;cases g;obtain⟨c,j,k⟩:=We.1 h;exact⟨_,_,c,rfl,rfl,j,k.symm⟩
theorem zjQ{s}{a b}{l m}{t}(h:zT (2::s) (a::l) (b::m)=some t):∃x y c,a=.bool x/\b=.bool y/\zT s l m=some c/\t=((x == y)&&c):=by
 unfold zT at h;split at h
 all_goals first
  |(cases h;done)
  |(rename_i d e g;cases d;done)
  |skip
 .rename_i d e g;cases d;cases e;cases g;obtain⟨c,j,k⟩:=We.1 h;exact⟨_,_,c,rfl,rfl,j,k.symm⟩
theorem zoR(d:Nat){q u:Array Value}{c m:List AV}(U:∀(i:Nat)(v:Value)(a:AV),q[i]?=some v->c[i]?=some a->VR w M ι v a)(V:∀(i:Nat)(v:Value)(a:AV),u[i]?=some v->m[i]?=some a->VR w M ι v a)(Q:q.size=c.length)(R:u.size=m.length):∀(A:List Field)(i:Nat)(N:List Nat)(t:Bool),zgx P A i=some N->zT N (c.drop i) (m.drop i)=some t ->
   (Xw (d+1) q u A).run P w=.ok t w
 |
  [],i,N,t,h,e=>by
  cases h;unfold zT at e;split at e<;>first|(cases e;simp[Xw];done)|(cases e;done)|skip
  all_goals simp_all
 |
  f::A,i,N,t,h,e=>by
  unfold zgx at h;split at h
  .rename_i Z;obtain⟨rfl,O⟩:=Z;split at h
   .rename_i s l p hl;cases h
    have y:∃a,c[f.offset]?=some a:=by
     cases B:c[f.offset]? with
     |some a=>exact⟨a,rfl⟩
     |none=>rw[W6 (by simpa using B)]at e;unfold zT at e;split at e<;>simp_all
    have z:∃b,m[f.offset]?=some b:=by
     cases B:m[f.offset]? with
     |some a=>exact⟨a,rfl⟩
     |none=>rw[W6 (l:=m) (by simpa using B)]at e;unfold zT at e;split at e<;>simp_all
    obtain⟨a,y⟩:=y;obtain⟨b,z⟩:=z;have D:=(Wp.1 y).1;have F:=(Wp.1 z).1;have J:q[f.offset]?=some q[f.offset]:=Wl (by omega);have K:u[f.offset]?=some u[f.offset]:=Wl (by omega);have n:=U _ _ _ J y;have o:=V _ _ _ K z;have W:c.drop f.offset=a::c.drop (f.offset+1):=by rw[WN D];congr 1;rw[Wm D]at y;exact Option.some.inj y
    have X:m.drop f.offset=b::m.drop (f.offset+1):=by rw[WN F];congr 1;rw[Wm F]at z;exact Option.some.inj z
    rw[W,X]at e
    have g:∀(r j:Bool),(XH (d+1) f.type q[f.offset] u[f.offset]).run P w=.ok r w->zT l (c.drop (f.offset+1)) (m.drop (f.offset+1))=some j->t=(r&&j) ->
      (Xw (d+1) q u (f::A)).run P w=.ok t w:=by
     intro r j Y B x;have ih:=zoR d U V Q R A (f.offset+1) l j hl B;subst x;simp only[Xw,if_pos O,Xa,zq1 p J,zq1 p K,Xc,Y];cases r
     .simp
     .simp[ih]
    generalize q[f.offset]=xv at n g;generalize u[f.offset]=yv at o g;unfold zrn at p;split at p
    .rename_i k I;cases p;obtain⟨k1,S,T,j,rfl,rfl,x,C⟩:=zlx e;cases n;cases o;exact g _ j (run_equalIn_int w d f.type k1 k S T I) x C
    .rename_i I;cases p;obtain⟨S,T,j,rfl,rfl,x,C⟩:=zlw e;cases n;cases o;exact g _ j (run_equalIn_string w d f.type _ _ I) x (by rw[C,znf])
    .rename_i I;cases p;obtain⟨S,T,j,rfl,rfl,x,C⟩:=zjQ e;cases n;cases o;exact g _ j (run_equalIn_bool' w d f.type _ _ I) x C
    .cases p
   .cases h
  .cases h
theorem zFm{t:TypeId}{h:Array Field}{g:List Nat}{neg:Bool}{x y:Operand}{n o:Value}{a b:AV}(q:P.underlying t=some (.struct h))(s:zgx P h.toList 0=some g)(m:P.stoodInHeld t=false)(k:P.eqGuardType P.depth t=false)(u:VR w (Lt L ι H) ι n a)(v:VR w (Lt L ι H) ι o b)(d:(eqsR neg g a b H nx).side) :
  zaR P w L ι H nx (do eqGuard (bif neg then .neq else .eql) t x y n o;binOp (bif neg then .neq else .eql) t n o) (eqsR neg g a b H nx):=by
 cases u with
 |agg _ cs asv hsz h1 hv=>
  cases v with
  |agg _ ds bs hsz2 h2 hv2=>
   unfold eqsR at d⊢;simp only at d⊢
   cases j:zT g asv bs with
   |none=>simp[j,bad]at d
   |some r=>
    simp only[j]at d⊢;have e:P.fieldsOf t=h:=by unfold Program.fieldsOf;rw[q]
    have c:(XP t (.agg cs) (.agg ds)).run P w=.ok r w:=by have:=zoR (P:=P) (w:=w) 9998 hv hv2 hsz hsz2 h.toList 0 g r s (by simpa using j);show(XH (9999+1) t (.agg cs) (.agg ds)).run P w=_;rw[run_equalIn_struct w 9999 t cs ds (by rw[e];exact q) m,e];exact this
    have p:=λ(op:BinOp)=>run_eqGuard_agg (P:=P) w op t x y cs ds k
    cases neg
    .refine⟨.bool r,?_,.bool _ _,rfl,rfl,trivial⟩;simp[Xa,p,binOp,c]
    .refine⟨.bool (!r),?_,.bool _ _,rfl,rfl,trivial⟩;simp[Xa,p,binOp,c]
  |_=>simp[eqsR,bad]at d
 |_=>cases b<;>simp[eqsR,bad]at d
end
end Go.Ab
namespace Go.Ab
open Go.RowKit Go.MapKept
section
variable {P:Program}{w:World}{L:Nat->Prop}{ι:Inj}{H:AH}{nx:Nat}{M:Nat->Prop}
theorem zGn{t}{z}(h:zBO P t=some z):∃b,(zeroValue t).run P w=.ok b w/\∀(w:World)(M:Nat->Prop)(ι:Inj),VR w M ι b z:=by
 unfold zBO at h;split at h
 .rename_i i c;split at h
  .rename_i b d;exact⟨b,by simp[zeroValue,typeInfo,c,d],λw M ι=>zjR 2 b z h⟩
  .cases h
 .cases h
theorem ztj:¬maxLen+1<=maxLen:=by omega
theorem zAv:¬maxLen+2<=maxLen:=by omega
theorem zD3{t}(rel:RelH w L ι H nx):zfV P w L ι H nx (Instr.makeMap t none) (zAT H nx):=by
 have o:Chg w ι H nx 0 0 ⟨w.heap.size,0,maxLen+1,3⟩ (w.alloc (.map #[] 0)) :=
  ⟨rfl,rfl,rfl,by simp,λb d _=>Xq w _ b d,λ_=>.inr (Wf _),λq m=>(by rw[rel.freshI]at m;cases m),λp s n=>(by rw[rel.freshI]at n;cases n)⟩
 have d:(w.alloc (.map #[] 0)).heap[w.heap.size]?=some (.map #[] 0):=(by have:(w.alloc (.map #[] 0)).heap=w.heap.push (.map #[] 0):=rfl;rw[this];simp)
 have k:=o.step (rel.sok 3) rel (Wn _) (Wo _) (els:=[[.int .i64 0,.undef,.undef]]) (by
  refine⟨rfl,λi c e=>?_,λh=>absurd h ztj,λ_=>⟨Nat.succ_pos 2,.map #[] 0,d,rfl,by simp[zui]⟩,λi c j a e g=>?_⟩
  .cases i with
   |zero=>cases e;rfl
   |succ i=>cases e
  .cases i with
   |succ i=>cases e
   |zero=>
    cases e
    match j with
    |0=>cases g;exact⟨.int .i64 0,by unfold zd0;rw[if_neg ztj,d];rfl,λh=>absurd h ztj,.int _ _ _ (zhG (by decide) (by decide))⟩
    |1=>cases g;exact⟨.bool false,by unfold zd0;rw[if_neg ztj,d];rfl,λh=>absurd h ztj,.undef _ _⟩
    |2=>cases g;exact⟨.bool false,by unfold zd0;rw[if_neg ztj,d];rfl,λh=>absurd h ztj,.undef _ _⟩
    |j+3=>cases g)
 exact⟨.map (some w.heap.size),_,_,run_makeMap t w,k,.mp _ nx _ _ (Xh _ _ _ _ _) rfl,trivial⟩
theorem RowOk.map{es}{l}(ok:RowOk w M ι 3 es l)(q:l.cap=maxLen+1):∃d clock,w.heap[l.block]?=some (.map d clock)/\d.size+1=es.length /\
  ∀(i j:Nat)(c:List AV)(a:AV),es[i]?=some c->c[j]?=some a->∃v,zdL (.map d clock) i j=some v/\VR w M ι v a:=by
 have b:¬l.cap<=maxLen:=by omega
 obtain⟨_,o,g,k,h⟩:=ok.spec b;rw[q,WO]at h;cases o<;>simp[zui]at h
 rename_i d clock;refine⟨d,clock,g,k,λi j c a n p=>?_⟩;obtain⟨v,e,_,m⟩:=ok.hold i c j a n p;unfold zd0 at e;rw[if_neg b,g]at e;exact⟨v,e,m⟩
theorem zqy{str}{kt}{kv}{k}(e:zlv P kt=some str)(g:zhq str k)(p:VR w M ι kv k):∃d,P.underlying kt=some d/\IsKey d kv /\
  (∀b j t,VR w M ι b j->zwg k j=some t->Xx d kv b=some t/\(t=true->b=kv))/\Xy 10000 kv kv=true:=by
 unfold zlv at e;split at e
 .rename_i o;cases e;cases p<;>first|(cases g;done)|skip
  rename_i s A;refine⟨_,o,trivial,λb j t m c=>?_,?_⟩
  .cases m<;>simp[zwg]at c
   rename_i u x;subst c;refine⟨?_,λh=>?_⟩
   .simp only[Xx,Wd];rw[WJ,bytes_beq,decide_eq_true_iff]
   .rw[of_decide_eq_true h]
  .simp only[Xy];exact(bytes_beq s s).2 rfl
 .rename_i q o;cases e;cases p<;>first|(cases g;done)|skip
  rename_i κ n z;simp only[zhq]at g;subst g;refine⟨_,o,rfl,λb j t m c=>?_,?_⟩
  .cases m<;>simp[zwg]at c
   rename_i y B v;obtain⟨rfl,rfl⟩:=c;refine⟨?_,λh=>?_⟩
   .simp only[Xx,if_true,Wd];rw[WJ,beq_iff_eq,decide_eq_true_iff]
   .rw[of_decide_eq_true h]
  .simp[Xy]
 .cases e
theorem zkV{d:TypeDesc}{x:Value}{k:AV}(z:∀m C t,VR w M ι m C->zwg k C=some t->Xx d x m=some t/\(t=true->m=x)):
  ∀(g:List MapEntry) (o:List (List AV)) (i:Nat) (r:Option (Nat×AV)),g.length=o.length ->
   (∀(j:Nat)(e:MapEntry)(c:List AV),g[j]?=some e->o[j]?=some c->(∀a,c[0]?=some a->VR w M ι e.key a)/\(∀a,c[1]?=some a->VR w M ι e.val a))->zeC k o i=some r ->
   match r with
   |none=>Xk d x g i=some none
   |some (n,v)=>∃e,i<=n/\g[n-i]?=some e/\Xk d x g i=some (some (n,e.val))/\VR w M ι e.val v/\e.key=x
 |[],[],i,r,_,_,h=>by cases h;rfl
 |[],c::o,i,r,q,_,_=>by cases q
 |e::g,[],i,r,q,_,_=>by cases q
 |
  e::g,c::o,i,r,q,hh,h=>by
  unfold zeC at h;split at h
  .rename_i T v u;obtain⟨F,I⟩:=hh 0 e _ rfl rfl;have b:=F T rfl;have s:=I v rfl;split at h
   .rename_i A;cases h;obtain⟨y,J⟩:=z _ _ _ b A;exact⟨e,Wf _,by simp,by simp[Xk,y],s,J rfl⟩
   .rename_i A;obtain⟨y,_⟩:=z _ _ _ b A;have B:=zkV z g o (i+1) r (by simpa using q) (λj e c S R=>hh (j+1) e c (by simpa using S) (by simpa using R)) h
    cases r with
    |none=>simp[Xk,y];exact B
    |some p=>obtain⟨n,V⟩:=p;obtain⟨D,U,K,N,O,Q⟩:=B;refine⟨D,by omega,?_,by simp[Xk,y];exact N,O,Q⟩;rw[show n-i=(n-(i+1))+1 by omega,Wi];exact K
   .cases h
  .cases h
theorem zdd{b:Array MapEntry}{clock i}{e:MapEntry}(h:b[i]?=some e):zdL (.map b clock) (i+1) 0=some e.key/\zdL (.map b clock) (i+1) 1=some e.val/\zdL (.map b clock) (i+1) 2=some (.int .i64 e.born):=by simp[zdL,h]
theorem znr{n:Array MapEntry}{clock}{hd}{cs}(m:∀(i j:Nat)(c:List AV)(a:AV),(hd::cs)[i]?=some c->c[j]?=some a->∃v,zdL (.map n clock) i j=some v/\VR w M ι v a):
  ∀(j:Nat)(e:MapEntry)(c:List AV),n.toList[j]?=some e->cs[j]?=some c->(∀a,c[0]?=some a->VR w M ι e.key a)/\(∀a,c[1]?=some a->VR w M ι e.val a):=by
 intro j e c k h;rw[Wk]at k;obtain⟨o,p,_⟩:=zdd (clock:=clock) k;constructor
 .intro a g;obtain⟨v,b,d⟩:=m (j+1) 0 c a (by simpa using h) g;rw[o]at b;cases b;exact d
 .intro a g;obtain⟨v,b,d⟩:=m (j+1) 1 c a (by simpa using h) g;rw[p]at b;cases b;exact d
theorem zAh{ok}{v}{a}{b}{z}{r}(h:b=r.isSome)(e:a=mval z r)(g:VR w M ι v a):VR w M ι (if ok then .tuple #[v,.bool b]else v) (mgot ok z r):=by
 subst h;unfold mgot
 cases ok with
 |false=>simp only[W7,if_false,cond_false];rw[<-e];exact g
 |true=>
  simp only[if_true,cond_true];rw[<-e];refine .tup _ _ _ rfl (λi k j c d=>?_)
  match i with
  |0=>cases c;cases d;exact g
  |1=>cases c;cases d;exact .bool _ _
  |i+2=>cases c
theorem zEM{t kt et}{str}{ok}{z}{mv kv}{m k}(rel:RelH w L ι H nx)(T:P.underlying t=some (.map kt et))(A:zlv P kt=some str)(hz:zBO P et=some z)(hm:VR w (Lt L ι H) ι mv m)(S:VR w (Lt L ι H) ι kv k)(c:(zjn str ok z m k H nx).side):zaR P w L ι H nx (Xz t mv kv ok) (zjn str ok z m k H nx):=by
 obtain⟨V,D,F⟩:=zGn (w:=w) hz
 cases hm with
 |nilmp=>simp only[zjn]at c⊢;obtain⟨d,hd,j,_,_⟩:=zqy A c S;have h:=zAh (ok:=ok) (b:=false) (z:=z) (r:=none) rfl rfl (F w (Lt L ι H) ι);refine⟨_,?_,h,rfl,rfl,h.wf⟩;have u:(Xj kt kv (#[]:Array MapEntry).toList).run P w=.ok none w:=run_findKey hd rfl;simp only[Xz,Xa,run_underlying T,Xc,XA];rw[run_checkKey hd j _ 9999];simp only[Xc];rw[u];simp[D]
 |mp _ r q l hl hcap=>
  cases y:H.get r q with
  |none=>simp[zjn,y,bad]at c
  |some o=>
   cases o with
   |fam sz ins=>simp[zjn,y,bad]at c
   |row sz J g=>
    cases J with
    |nil=>simp[zjn,y,bad]at c
    |cons hd0 cs=>
     simp only[zjn,y]at c⊢
     cases u:zeC k cs 0 with
     |none=>simp[u,bad]at c
     |some I=>
      simp only[u]at c⊢;obtain⟨rfl,rfl,N⟩:=c;obtain⟨l',B,R⟩:=rel.row _ _ _ _ _ y;rw[hl]at B;cases B;obtain⟨Q,clock,Y,O,Z⟩:=R.map hcap;obtain⟨d,hd,j,s,_⟩:=zqy A N S;have x:=zkV s Q.toList cs 0 I (by simp at O⊢;omega) (znr Z) u
      have run:∀(q:Option (Nat×Value)),Xk d kv Q.toList 0=some q->∀v b,(match q with|some (_,U)=>v=U/\b=true|none=>v=V/\b=false)->(Xz t (.map (some l.block)) kv ok).run P w=.ok (if ok then .tuple #[v,.bool b]else v) w:=by
       intro q hq v b C;have K:(Xj kt kv Q.toList).run P w=.ok q w:=run_findKey hd hq;simp only[Xz,Xa,run_underlying T,Xc,XA,Xl Y];rw[run_checkKey hd j _ 9999];simp only[Xc];rw[K]
       cases q with
       |none=>obtain⟨rfl,rfl⟩:=C;simp[D]
       |some p=>obtain⟨n,U⟩:=p;obtain⟨rfl,rfl⟩:=C;simp
      cases I with
      |none=>have h:=zAh (ok:=ok) (b:=false) (z:=z) (r:=none) rfl rfl (F w (Lt L ι H) ι);exact⟨_,run none x V false ⟨rfl,rfl⟩,h,rfl,rfl,h.wf⟩
      |some p=>obtain⟨n,v⟩:=p;obtain⟨e,_,_,W,X,_⟩:=x;have h:=zAh (ok:=ok) (b:=true) (z:=z) (r:=some (n,v)) rfl rfl X;exact⟨_,run _ W e.val true ⟨rfl,rfl⟩,h,rfl,rfl,h.wf⟩
 |_=>simp[zjn,bad]at c
theorem zrg{old new}(h:Xy 10000 old new=true):(XB old new).run P w=.ok new w:=by simp[XB,h]
theorem Step.mapset{r q}{l}{d els'}{N ms':Array MapEntry}{clock clock'}(rel:RelH w L ι H nx)(n:H.get r q=some (.row 3 d 0))(s:ι r q 0=some l)(g:l.cap=maxLen+1)(ok:RowOk w (Lt L ι H) ι 3 d l)(y:w.heap[l.block]?=some (.map N clock))(o:ms'.size+1=els'.length)(J:∀(i:Nat)(c:List AV),els'[i]?=some c->c.length=3)(B:∀(i j:Nat)(c:List AV)(a:AV),els'[i]?=some c->c[j]?=some a->∃v,zdL (.map ms' clock') i j=some v/\VR w (Lt L ι H) ι v a) :
  Step w L ι H nx { w with heap:=w.heap.setIfInBounds l.block (.map ms' clock') } (ι.put r q 0 l) (H.set r q (.row 3 els' 0)) nx:=by
 have p:0<l.cap*l.sz:=by rw[ok.hsz,g];omega
 have m:¬l.cap<=maxLen:=by omega
 have u:Chg w ι H r q 0 l { w with heap:=w.heap.setIfInBounds l.block (.map ms' clock') }:=by refine⟨rfl,rfl,rfl,by simp,λb k F=>?_,λI=>.inl ⟨3,d,0,l,n,s,I,rfl⟩,λO x=>by rw[s]at x;cases x;rfl,λz K t=>rel.gen r q _ _ _ n z K t⟩;exact(XC y).2 b (λe=>F ⟨3,d,0,l,n,s,p,e.symm⟩)
 have k:=(XC (o':=.map ms' clock') y).1;refine u.step (.inl ⟨_,_,n⟩) rel (rel.idx _ _ _ _ s) (Wf _) ⟨ok.hsz,J,λh=>absurd h m,λ_=>⟨by rw[ok.hsz];omega,.map ms' clock',k,o,by rw[g];simp[zui]⟩,λi c j a C D=>?_⟩;obtain⟨v,A,t⟩:=B i j c a C D;refine⟨v,?_,λh=>absurd h m,u.vr (.inl ⟨_,_,n⟩) rel t⟩;unfold zd0;rw[if_neg m];simp only[k,W8];exact A
theorem ztG{α:Type}{l:List α}{i:Nat}{a d:α}(h:l[i]?=some a):l.getD i d=a:=by rw[WY,h];rfl
theorem zBX{t kt et:TypeId}{str:Option IntKind}{mv x F:Value}{m k v:AV}(rel:RelH w L ι H nx)(ht:P.underlying t=some (.map kt et))(hkk:zlv P kt=some str)(hm:VR w (Lt L ι H) ι mv m)(hk:VR w (Lt L ι H) ι x k)(hv:VR w (Lt L ι H) ι F v)(D:(znK str m k v H nx).side) :
  ∃w' ι',(Xr t mv x F).run P w=.ok () w'/\Step w L ι H nx w' ι' (znK str m k v H nx).H (znK str m k v H nx).nx/\(znK str m k v H nx).fact/\(znK str m k v H nx).v=.undef:=by
 cases hm with
 |mp _ r q l hl I=>
  cases hg:H.get r q with
  |none=>simp[znK,hg,bad]at D
  |some o=>
   cases o with
   |fam sz ins=>simp[znK,hg,bad]at D
   |row sz els g=>
    cases els with
    |nil=>simp[znK,hg,bad]at D
    |cons hd0 cs=>
     simp only[znK,hg]at D⊢;split at D
     .rename_i c u u'
      cases Y:zeC k cs 0 with
      |none=>simp[Y,bad]at D
      |some X=>
       have V:sz=3/\g=0/\zhq str k:=by
        cases X with
        |none=>simp only[Y]at D;exact⟨D.1,D.2.1,D.2.2.1⟩
        |some p=>simp only[Y]at D;exact D
       obtain⟨rfl,rfl,hko⟩:=V;obtain⟨l',hl',A⟩:=rel.row _ _ _ _ _ hg;rw[hl]at hl';cases hl';obtain⟨z,clock,hb,K,J⟩:=A.map I;obtain⟨d,hd,hik,U,O⟩:=zqy hkk hko hk;have hfn:=zkV U z.toList cs 0 X (by simp at K⊢;omega) (znr J) Y;have hclk:c=clock:=by obtain⟨v0,s,y⟩:=J 0 0 _ _ rfl rfl;cases s;cases y;rfl
       subst hclk;have B:=Xl (P:=P) hb;have N:(XI false 10000 kt x).run P w=.ok () w:=run_checkKey hd hik _ 9999
       cases X with
       |none=>
        simp only[Y]at D⊢;have R:(Xj kt x z.toList).run P w=.ok none w:=run_findKey hd hfn;refine⟨_,_,?_,Step.mapset (ms':=z.push ⟨x,F,clock⟩) (clock':=clock+1) rel hg hl I A hb (by simp at K⊢;omega) (λi c b=>?_) (λi j c a b h=>?_),trivial,trivial⟩
        .simp only[Xr,Xa,run_underlying ht,Xc,B,N,R,Xm _ hb]
        .cases i with
         |zero=>cases b;rfl
         |succ i=>
          simp only[Wi]at b;by_cases S:i<cs.length
          .rw[Ww S]at b;exact A.wide (i+1) c (by simpa using b)
          .rw[Wx (by omega)]at b
           cases C:i-cs.length with
           |zero=>rw[C]at b;cases b;rfl
           |succ q=>rw[C]at b;cases b
        .cases i with
         |zero=>
          cases b
          match j with
          |0=>
           cases h
           exact⟨.int .i64 (clock+1:Nat),rfl,by
            have:((clock:Int)+1)=((clock+1:Nat):Int):=by omega
            rw[this]
            exact .int _ _ _ (zhG (by omega) (by omega))⟩
          |1=>cases h;obtain⟨v0,s,y⟩:=J 0 1 _ _ rfl rfl;exact⟨v0,s,y⟩
          |2=>cases h;obtain⟨v0,s,y⟩:=J 0 2 _ _ rfl rfl;exact⟨v0,s,y⟩
          |j+3=>cases h
         |succ i=>
          simp only[Wi]at b;have hms:z.size=cs.length:=by simp at K;omega
          by_cases S:i<cs.length
          .rw[Ww S]at b;obtain⟨v0,s,y⟩:=J (i+1) j c a (by simpa using b) h;refine⟨v0,?_,y⟩;have e:(z.push ⟨x,F,clock⟩)[i]?=z[i]? := by rw[W9,if_neg (by omega)]
           rw[<-s]
           match j with
           |0=>simp only[zdL,e]
           |1=>simp only[zdL,e]
           |2=>simp only[zdL,e]
           |j+3=>rfl
          .rw[Wx (by omega)]at b
           cases C:i-cs.length with
           |succ q=>rw[C]at b;cases b
           |zero=>
            rw[C]at b;cases b;have hi3:i<cs.length+1:=by omega
            have:i=z.size:=by omega
            have e:(z.push ⟨x,F,clock⟩)[i]?=some ⟨x,F,clock⟩:=by rw[this];simp
            obtain⟨e1,e2,e3⟩:=zdd (clock:=clock+1) e
            match j with
            |0=>cases h;exact⟨x,e1,hk⟩
            |1=>cases h;exact⟨F,e2,hv⟩
            |2=>cases h;exact⟨_,e3,.int _ _ _ (zhG (by simp only;omega) (by simp only;omega))⟩
            |j+3=>cases h
       |some p=>
        obtain⟨n,v1⟩:=p;simp only[Y]at D⊢;obtain⟨e,_,h6,h7,_,h9⟩:=hfn;rw[Wz,Wk]at h6;have R:(Xj kt x z.toList).run P w=.ok (some (n,e.val)) w:=run_findKey hd h7;have W:(XB (((z[n]?).map (·.key)).getD x) x).run P w=.ok x w:=by rw[h6];simp only[WE,WP,h9];exact zrg O
        have hms:z.size=cs.length:=by simp at K;omega
        have hn:n<z.size:=(Wq.1 h6).1;refine⟨_,_,?_,Step.mapset (ms':=z.modify n λe=>{ e with key:=x,val:=F }) (clock':=clock) rel hg hl I A hb (by simp;omega) (λi c b=>?_) (λi j c a b h=>?_),trivial,trivial⟩
        .simp only[Xr,Xa,run_underlying ht,Xc,B,N,R,W,Xm _ hb]
        .cases i with
         |zero=>cases b;rfl
         |succ i=>
          simp only[Wi,WF]at b;split at b
          .split at b
           .cases b;rfl
           .cases b
          .exact A.wide (i+1) c (by simpa using b)
        .cases i with
         |zero=>
          cases b
          match j with
          |0=>cases h;obtain⟨v0,s,y⟩:=J 0 0 _ _ rfl rfl;exact⟨v0,s,y⟩
          |1=>cases h;obtain⟨v0,s,y⟩:=J 0 1 _ _ rfl rfl;exact⟨v0,s,y⟩
          |2=>cases h;obtain⟨v0,s,y⟩:=J 0 2 _ _ rfl rfl;exact⟨v0,s,y⟩
          |j+3=>cases h
         |succ i=>
          simp only[Wi,WF]at b;split at b
          .rename_i T;subst T;split at b
           .cases b;have Z:(z.modify n λe=>{ e with key:=x,val:=F })[n]?=some { e with key:=x,val:=F }:=by rw[Ws,if_pos rfl,h6];rfl
            obtain⟨e1,e2,e3⟩:=zdd (clock:=clock) Z
            match j with
            |0=>cases h;exact⟨x,e1,hk⟩
            |1=>cases h;exact⟨F,e2,hv⟩
            |2=>cases h;have Q:cs[n]?=some cs[n]:=Wm (by omega);have hw:=A.wide (n+1) cs[n] (by simpa using Q);obtain⟨v0,s,y⟩:=J (n+1) 2 cs[n] _ (by simpa using Q) (Wm (by omega));obtain⟨_,_,e6⟩:=zdd (clock:=clock) h6;rw[e6]at s;cases s;refine⟨_,e3,?_⟩;rw[ztG Q,ztG (Wm (by omega))];exact y
            |j+3=>cases h
           .cases b
          .rename_i T;obtain⟨v0,s,y⟩:=J (i+1) j c a (by simpa using b) h;refine⟨v0,?_,y⟩;have Z:(z.modify n λe=>{ e with key:=x,val:=F })[i]?=z[i]? := by rw[Ws,if_neg T]
           rw[<-s]
           match j with
           |0=>simp only[zdL,Z]
           |1=>simp only[zdL,Z]
           |2=>simp only[zdL,Z]
           |j+3=>rfl
     .rename_i u u'
      cases Y:zeC k cs 0 with
      |none=>simp[Y,bad]at D
      |some X=>
       have V:sz=3/\g=0/\zhq str k:=by
        cases X with
        |none=>simp only[Y]at D;exact D
        |some p=>simp only[Y]at D;exact D
       obtain⟨rfl,rfl,hko⟩:=V;obtain⟨l',hl',A⟩:=rel.row _ _ _ _ _ hg;rw[hl]at hl';cases hl';obtain⟨z,clock,hb,K,J⟩:=A.map I;obtain⟨d,hd,hik,U,O⟩:=zqy hkk hko hk;have hfn:=zkV U z.toList cs 0 X (by simp at K⊢;omega) (znr J) Y;have B:=Xl (P:=P) hb;have N:(XI false 10000 kt x).run P w=.ok () w:=run_checkKey hd hik _ 9999
       cases X with
       |none=>
        simp only[Y]at D⊢;have R:(Xj kt x z.toList).run P w=.ok none w:=run_findKey hd hfn;refine⟨_,_,?_,Step.mapset (ms':=z.push ⟨x,F,clock⟩) (clock':=clock+1) rel hg hl I A hb (by simp at K⊢;omega) (λi c b=>?_) (λi j c a b h=>?_),trivial,trivial⟩
        .simp only[Xr,Xa,run_underlying ht,Xc,B,N,R,Xm _ hb]
        .cases i with
         |zero=>cases b;rfl
         |succ i=>
          simp only[Wi]at b;by_cases S:i<cs.length
          .rw[Ww S]at b;exact A.wide (i+1) c (by simpa using b)
          .rw[Wx (by omega)]at b
           cases C:i-cs.length with
           |zero=>rw[C]at b;cases b;rfl
           |succ q=>rw[C]at b;cases b
        .cases i with
         |zero=>
          cases b
          match j with
          |0=>cases h;exact⟨.int .i64 (clock+1:Nat),rfl,.undef _ _⟩
          |1=>cases h;obtain⟨v0,s,y⟩:=J 0 1 _ _ rfl rfl;exact⟨v0,s,y⟩
          |2=>cases h;obtain⟨v0,s,y⟩:=J 0 2 _ _ rfl rfl;exact⟨v0,s,y⟩
          |j+3=>cases h
         |succ i=>
          simp only[Wi]at b;have hms:z.size=cs.length:=by simp at K;omega
          by_cases S:i<cs.length
          .rw[Ww S]at b;obtain⟨v0,s,y⟩:=J (i+1) j c a (by simpa using b) h;refine⟨v0,?_,y⟩;have e:(z.push ⟨x,F,clock⟩)[i]?=z[i]? := by rw[W9,if_neg (by omega)]
           rw[<-s]
           match j with
           |0=>simp only[zdL,e]
           |1=>simp only[zdL,e]
           |2=>simp only[zdL,e]
           |j+3=>rfl
          .rw[Wx (by omega)]at b
           cases C:i-cs.length with
           |succ q=>rw[C]at b;cases b
           |zero=>
            rw[C]at b;cases b;have hi3:i<cs.length+1:=by omega
            have:i=z.size:=by omega
            have e:(z.push ⟨x,F,clock⟩)[i]?=some ⟨x,F,clock⟩:=by rw[this];simp
            obtain⟨e1,e2,e3⟩:=zdd (clock:=clock+1) e
            match j with
            |0=>cases h;exact⟨x,e1,hk⟩
            |1=>cases h;exact⟨F,e2,hv⟩
            |2=>cases h;exact⟨_,e3,.undef _ _⟩
            |j+3=>cases h
       |some p=>
        obtain⟨n,v1⟩:=p;simp only[Y]at D⊢;obtain⟨e,_,h6,h7,_,h9⟩:=hfn;rw[Wz,Wk]at h6;have R:(Xj kt x z.toList).run P w=.ok (some (n,e.val)) w:=run_findKey hd h7;have W:(XB (((z[n]?).map (·.key)).getD x) x).run P w=.ok x w:=by rw[h6];simp only[WE,WP,h9];exact zrg O
        have hms:z.size=cs.length:=by simp at K;omega
        have hn:n<z.size:=(Wq.1 h6).1;refine⟨_,_,?_,Step.mapset (ms':=z.modify n λe=>{ e with key:=x,val:=F }) (clock':=clock) rel hg hl I A hb (by simp;omega) (λi c b=>?_) (λi j c a b h=>?_),trivial,trivial⟩
        .simp only[Xr,Xa,run_underlying ht,Xc,B,N,R,W,Xm _ hb]
        .cases i with
         |zero=>cases b;rfl
         |succ i=>
          simp only[Wi,WF]at b;split at b
          .split at b
           .cases b;rfl
           .cases b
          .exact A.wide (i+1) c (by simpa using b)
        .cases i with
         |zero=>
          cases b
          match j with
          |0=>cases h;obtain⟨v0,s,y⟩:=J 0 0 _ _ rfl rfl;exact⟨v0,s,y⟩
          |1=>cases h;obtain⟨v0,s,y⟩:=J 0 1 _ _ rfl rfl;exact⟨v0,s,y⟩
          |2=>cases h;obtain⟨v0,s,y⟩:=J 0 2 _ _ rfl rfl;exact⟨v0,s,y⟩
          |j+3=>cases h
         |succ i=>
          simp only[Wi,WF]at b;split at b
          .rename_i T;subst T;split at b
           .cases b;have Z:(z.modify n λe=>{ e with key:=x,val:=F })[n]?=some { e with key:=x,val:=F }:=by rw[Ws,if_pos rfl,h6];rfl
            obtain⟨e1,e2,e3⟩:=zdd (clock:=clock) Z
            match j with
            |0=>cases h;exact⟨x,e1,hk⟩
            |1=>cases h;exact⟨F,e2,hv⟩
            |2=>cases h;have Q:cs[n]?=some cs[n]:=Wm (by omega);have hw:=A.wide (n+1) cs[n] (by simpa using Q);obtain⟨v0,s,y⟩:=J (n+1) 2 cs[n] _ (by simpa using Q) (Wm (by omega));obtain⟨_,_,e6⟩:=zdd (clock:=clock) h6;rw[e6]at s;cases s;refine⟨_,e3,?_⟩;rw[ztG Q,ztG (Wm (by omega))];exact y
            |j+3=>cases h
           .cases b
          .rename_i T;obtain⟨v0,s,y⟩:=J (i+1) j c a (by simpa using b) h;refine⟨v0,?_,y⟩;have Z:(z.modify n λe=>{ e with key:=x,val:=F })[i]?=z[i]? := by rw[Ws,if_neg T]
           rw[<-s]
           match j with
           |0=>simp only[zdL,Z]
           |1=>simp only[zdL,Z]
           |2=>simp only[zdL,Z]
           |j+3=>rfl
     .simp[bad]at D
 |_=>simp[znK,bad]at D
end
section
variable {P:Program}{w:World}{L:Nat->Prop}{ι:Inj}{H:AH}{nx:Nat}{M:Nat->Prop}
theorem zHP{t ty kt et}{mv}{m}(rel:RelH w L ι H nx)(s:P.underlying t=some (.map kt et))(v:VR w (Lt L ι H) ι mv m)(b:(zsv m H nx).side):
  zaR P w L ι H nx (Xn #[t] ty #[mv]) (zsv m H nx):=by
 cases v with
 |nilmp=>refine⟨.int .i64 0,?_,.int _ _ _ (zhG (by decide) (by decide)),rfl,rfl,trivial⟩;simp[Xn,run_underlying s,goInt]
 |mp _ r q l hl hcap=>
  cases c:H.get r q with
  |none=>simp[zsv,c,bad]at b
  |some o=>
   cases o with
   |fam z x=>simp[zsv,c,bad]at b
   |row z h g=>
    cases h with
    |nil=>simp[zsv,c,bad]at b
    |cons hd0 p=>
     simp only[zsv,c]at b⊢;obtain⟨rfl,rfl,u⟩:=b;obtain⟨B,d,n⟩:=rel.row _ _ _ _ _ c;rw[hl]at d;cases d;obtain⟨y,clock,j,k,A⟩:=n.map hcap;have e:y.size=p.length:=by simpa using k
     refine⟨.int .i64 p.length,?_,.int _ _ _ (zhG (by omega) (by unfold big at u;omega)),rfl,rfl,trivial⟩;simp[Xn,run_underlying s,Xl j,goInt,e]
 |_=>simp[zsv,bad]at b
theorem zuZ{d b:Array MapEntry}{c c' i i'}(h:b[i']?=d[i]?)(j):zdL (.map b c') (i'+1) j=zdL (.map d c) (i+1) j:=by
 match j with
 |0=>simp only[zdL,h]
 |1=>simp only[zdL,h]
 |2=>simp only[zdL,h]
 |j+3=>rfl
theorem zIs{t kt et}{ts}{ty}{str}{mv kv}{m k}(rel:RelH w L ι H nx)(O:ts[0]?=some t)(ht:P.underlying t=some (.map kt et))(X:zlv P kt=some str)(hm:VR w (Lt L ι H) ι mv m)(hk:VR w (Lt L ι H) ι kv k)(u:(zrR str m k H nx).side):zfV P w L ι H nx (Xs ts ty #[mv,kv]) (zrR str m k H nx):=by
 have B:∀(w:World)(M:Nat->Prop)(ι:Inj),VR w M ι (.tuple #[]) (.tup []):=λw M ι=>.tup _ _ _ rfl (λi v a h _=>by simp at h)
 cases hm with
 |nilmp=>simp only[zrR]at u⊢;obtain⟨d,hd,I,_,_⟩:=zqy X u hk;refine⟨.tuple #[],w,ι,?_,.refl rel,B _ _ _,trivial⟩;simp only[Xs,O,WA,WQ,Wi,Xa,run_underlying ht,Xc];rw[run_checkKey hd I _ 9999];rfl
 |mp _ r q l hl C=>
  cases T:H.get r q with
  |none=>simp[zrR,T,bad]at u
  |some o=>
   cases o with
   |fam sz ins=>simp[zrR,T,bad]at u
   |row sz els g=>
    cases els with
    |nil=>simp[zrR,T,bad]at u
    |cons hd0 cs=>
     simp only[zrR,T]at u⊢
     cases S:zeC k cs 0 with
     |none=>simp[S,bad]at u
     |some Q=>
      have N:sz=3/\g=0/\zhq str k:=by
       cases Q with
       |none=>simp only[S]at u;exact u
       |some p=>simp only[S]at u;exact u
      obtain⟨rfl,rfl,hko⟩:=N;obtain⟨l',Y,A⟩:=rel.row _ _ _ _ _ T;rw[hl]at Y;cases Y;obtain⟨b,clock,R,hsz,hh⟩:=A.map C;obtain⟨d,hd,I,J,_⟩:=zqy X hko hk;have W:=zkV J b.toList cs 0 Q (by simp at hsz⊢;omega) (znr hh) S;have hms:b.size=cs.length:=by simp at hsz;omega
      have x:=Xl (P:=P) R;have D:(XI b.isEmpty 10000 kt kv).run P w=.ok () w:=run_checkKey hd I _ 9999
      cases Q with
      |none=>
       simp only[S];have F:(Xj kt kv b.toList).run P w=.ok none w:=run_findKey hd W;have s:=Xm (P:=P) (.map b clock) R
       have K:({ w with heap:=w.heap.setIfInBounds l.block (.map b clock) }:World)=w:=by
        have:w.heap.setIfInBounds l.block (.map b clock)=w.heap:=by
         apply Array.ext_getElem?;intro i;rw[Array.getElem?_setIfInBounds];split
         .rename_i e;subst e;obtain⟨z,_⟩:=Wq.1 R;rw[if_pos z,R]
         .rfl
        rw[this]
       rw[K]at s;refine⟨.tuple #[],w,ι,?_,.refl rel,B _ _ _,trivial⟩;simp only[Xs,O,WA,WQ,Wi,Xa,run_underlying ht,Xc,x,D,F,s];rfl
      |some p=>
       obtain⟨n,v1⟩:=p;simp only[S];obtain⟨e,_,h6,h7,_,h9⟩:=W;rw[Wz,Wk]at h6;have hn:n<b.size:=(Wq.1 h6).1;have F:(Xj kt kv b.toList).run P w=.ok (some (n,e.val)) w:=run_findKey hd h7;have s:=Xm (P:=P) (.map (b.eraseIdxIfInBounds n) clock) R;have Z:∀i,(b.eraseIdxIfInBounds n)[i]?=if i<n then b[i]? else b[i+1]? := by intro i;rw[<-Wk,Waa,WR,Wk,Wk]
       refine⟨.tuple #[],_,_,?_,Step.mapset (ms':=b.eraseIdxIfInBounds n) (clock':=clock) rel T hl C A R (by
        have:(b.eraseIdxIfInBounds n).toList.length=(b.toList.eraseIdx n).length:=by rw[Waa]
        rw[Wy,Wab,if_pos (by simpa using hn),Wy]at this;rw[List.length_cons,Wab,if_pos (by omega)]
        omega) (λi c y=>?_) (λi j c a y hj=>?_),B _ _ _,trivial⟩
       .simp only[Xs,O,WA,WQ,Wi,Xa,run_underlying ht,Xc,x,D,F,s];rfl
       .cases i with
        |zero=>exact A.wide 0 c y
        |succ i=>
         simp only[Wi,WR]at y;split at y
         .exact A.wide (i+1) c (by simpa using y)
         .exact A.wide (i+2) c (by simpa using y)
       .cases i with
        |zero=>
         obtain⟨v0,U,V⟩:=hh 0 j c a y hj;refine⟨v0,?_,V⟩;rw[<-U]
         match j with
         |0=>rfl
         |j+1=>rfl
        |succ i=>
         simp only[Wi,WR]at y;split at y
         .rename_i z;obtain⟨v0,U,V⟩:=hh (i+1) j c a (by simpa using y) hj;exact⟨v0,by rw[<-U];exact zuZ (by rw[Z,if_pos z]) j,V⟩
         .rename_i z;obtain⟨v0,U,V⟩:=hh (i+2) j c a (by simpa using y) hj;exact⟨v0,by rw[<-U];exact zuZ (by rw[Z,if_neg z]) j,V⟩
 |_=>simp[zrR,bad]at u
theorem zBy(rel:RelH w L ι H nx)(m)(clock:Nat)(a)(c:Int)(t:c=clock)(g:InR .i64 c)(u:VR w (Lt L ι H) ι (.map m) a):
  Step w L ι H nx (w.alloc (.mapIter m clock #[] clock)) (ι.put nx 0 0 ⟨w.heap.size,0,maxLen+2,1⟩) (H.set nx 0 (.row 1 [[a],[.int .i64 c],[.int .i64 c]] 0)) (nx+1):=by
 have p:Chg w ι H nx 0 0 ⟨w.heap.size,0,maxLen+2,1⟩ (w.alloc (.mapIter m clock #[] clock)) :=
  ⟨rfl,rfl,rfl,by simp,λb n _=>Xq w _ b n,λ_=>.inr (Wf _),λz q=>(by rw[rel.freshI]at q;cases q),λy A k=>(by rw[rel.freshI]at k;cases k)⟩
 have n:(w.alloc (.mapIter m clock #[] clock)).heap[w.heap.size]?=some (.mapIter m clock #[] clock):=(by have:(w.alloc (.mapIter m clock #[] clock)).heap=w.heap.push (.mapIter m clock #[] clock):=rfl;rw[this];simp);refine p.step (rel.sok 1) rel (Wn _) (Wo _) ⟨rfl,λi c d=>?_,λh=>absurd h zAv,λ_=>⟨Nat.succ_pos 0,_,n,rfl,by simp[zui]⟩,λi x j o d e=>?_⟩
 .match i with
  |0=>cases d;rfl
  |1=>cases d;rfl
  |2=>cases d;rfl
  |i+3=>cases d
 .subst t
  have cell:∀v,zdL (.mapIter m clock #[] clock) i j=some v->VR w (Lt L ι H) ι v o->∃v,zd0 (w.alloc (.mapIter m clock #[] clock)) ⟨w.heap.size,0,maxLen+2,1⟩ 1 i j=some v/\(maxLen+2<=maxLen->v.oneCell'=true) /\
    VR (w.alloc (.mapIter m clock #[] clock)) (Lt L (ι.put nx 0 0 ⟨w.heap.size,0,maxLen+2,1⟩) (H.set nx 0 (.row 1 [[a],[.int .i64 clock],[.int .i64 clock]] 0))) (ι.put nx 0 0 ⟨w.heap.size,0,maxLen+2,1⟩) v o:=λv s k=>
   ⟨v,by unfold zd0;rw[if_neg zAv,n];exact s,λh=>absurd h zAv,p.vr (rel.sok 1) rel k⟩
  match i with
  |0=>
   cases d
   match j with
   |0=>cases e;exact cell _ rfl u
   |j+1=>cases e
  |1=>
   cases d
   match j with
   |0=>cases e;exact cell _ rfl (.int _ _ _ g)
   |j+1=>cases e
  |2=>
   cases d
   match j with
   |0=>cases e;exact cell _ rfl (.int _ _ _ g)
   |j+1=>cases e
  |i+3=>cases d
theorem zC2{t kt et}{mv}{m}(rel:RelH w L ι H nx)(p:P.underlying t=some (.map kt et))(z:VR w (Lt L ι H) ι mv m)(b:(zhA m H nx).side):
  zfV P w L ι H nx (XJ t mv) (zhA m H nx):=by
 cases z with
 |nilmp=>simp only[zhA];refine⟨.pointer (some ⟨w.heap.size,0,none⟩),_,_,?_,zBy rel none 0 .nilmp 0 rfl (zhG (by decide) (by decide)) (.nilmp _),.it _ nx _ (Xh _ _ _ _ _) (.inl rfl),trivial⟩;simp[XJ,Xa,run_underlying p]
 |mp _ r q l hl hcap=>
  cases e:H.get r q with
  |none=>simp[zhA,e,bad]at b
  |some o=>
   cases o with
   |fam C B=>simp[zhA,e,bad]at b
   |row C k g=>
    cases k with
    |nil=>simp[zhA,e,bad]at b
    |cons hd0 cs=>
     simp only[zhA,e]at b⊢;split at b
     .rename_i c u I;obtain⟨rfl,rfl⟩:=b;obtain⟨D,j,n⟩:=rel.row _ _ _ _ _ e;rw[hl]at j;cases j;obtain⟨F,clock,x,A,y⟩:=n.map hcap;obtain⟨v0,s,v⟩:=y 0 0 _ _ rfl rfl;cases s
      have d:c=(clock:Int)/\InR .i64 c:=by
       cases v with
       |int _ _ _ h=>exact⟨rfl,h⟩
      refine⟨.pointer (some ⟨w.heap.size,0,none⟩),_,_,?_,zBy rel (some l.block) clock (.mp r q) c d.1 d.2 (.mp _ _ _ _ hl hcap),.it _ nx _ (Xh _ _ _ _ _) (.inl rfl),trivial⟩;simp[XJ,Xa,run_underlying p,Xl x]
     .simp[bad]at b
 |_=>simp[zhA,bad]at b
theorem RowOk.iter{es}{l}(ok:RowOk w M ι 1 es l)(p:l.cap=maxLen+2):∃m c seen b,w.heap[l.block]?=some (.mapIter m c seen b)/\seen.size+3=es.length /\
  ∀(i:Nat)(a:AV),es[i]?=some [a]->∃v,zdL (.mapIter m c seen b) i 0=some v/\VR w M ι v a:=by
 have d:¬l.cap<=maxLen:=by omega
 obtain⟨_,o,g,j,h⟩:=ok.spec d;rw[p,WO]at h;cases o<;>simp[zui]at h
 rename_i m c seen b;refine⟨m,c,seen,b,g,j,λi a n=>?_⟩;obtain⟨v,e,_,k⟩:=ok.hold i _ 0 a n rfl;unfold zd0 at e;rw[if_neg d,g]at e;exact⟨v,e,k⟩
theorem RowOk.noBox{es}{l}(ok:RowOk w M ι 1 es l)(h:2<=es.length)(b:l.cap=maxLen+2\/l.cap=maxLen+3):l.cap=maxLen+2:=by
 rcases b with b|b
 .exact b
 .obtain⟨_,o,_,d,c⟩:=ok.spec (by omega);rw[b,WO]at c;cases o<;>simp[zui]at c
  simp only[vlen]at d;omega
theorem zqY{m}{d:Nat}{sv}{c i b:Nat}(h:sv[i]?=some b):zdL (.mapIter m d sv c) (i+3) 0=some (.int .i64 (b:Int)):=by simp only[zdL,h];rfl
theorem zy0{m m'}{sn sn'}{sv sv'}{stp stp' i}(h:sv'[i]?=sv[i]?):zdL (.mapIter m' sn' sv' stp') (i+3) 0=zdL (.mapIter m sn sv stp) (i+3) 0:=by simp only[zdL,h]
theorem Step.itset{r}{l}{g els'}{m}{d}{seen seen'}{st st'}{w1}(rel:RelH w L ι H nx)(k:w1=w\/w1=w.drew)(s:H.get r 0=some (.row 1 g 0))(x:ι r 0 0=some l)(n:l.cap=maxLen+2)(ok:RowOk w (Lt L ι H) ι 1 g l)(D:w.heap[l.block]?=some (.mapIter m d seen st))(t:seen'.size+3=els'.length)(J:∀(i:Nat)(c:List AV),els'[i]?=some c->c.length=1)(O:∀(i:Nat)(a:AV),els'[i]?=some [a]->∃v,zdL (.mapIter m d seen' st') i 0=some v/\VR w (Lt L ι H) ι v a) :
  Step w L ι H nx (XD w1 l.block (.mapIter m d seen' st')) (ι.put r 0 0 l) (H.set r 0 (.row 1 els' 0)) nx:=by
 have u:0<l.cap*l.sz:=by rw[ok.hsz,n];omega
 have q:¬l.cap<=maxLen:=by omega
 have p:w1.heap=w.heap:=by rcases k with rfl|rfl<;>rfl
 have B:Chg w ι H r 0 0 l (XD w1 l.block (.mapIter m d seen' st')):=by refine⟨by rcases k with rfl|rfl<;>rfl,by rcases k with rfl|rfl<;>rfl,by rcases k with rfl|rfl<;>rfl,by simp[XD,p],λb o Q=>?_,λR=>.inl ⟨1,g,0,l,s,x,R,rfl⟩,λT C=>by rw[x]at C;cases C;rfl,λK S y=>rel.gen r 0 _ _ _ s K S y⟩;show(w1.heap.setIfInBounds l.block _)[b]?=_;rw[p];exact(XC D).2 b (λe=>Q ⟨1,g,0,l,s,x,u,e.symm⟩)
 have o:(XD w1 l.block (.mapIter m d seen' st')).heap[l.block]?=some (.mapIter m d seen' st'):=by show(w1.heap.setIfInBounds l.block _)[l.block]?=_;rw[p];exact(XC D).1
 refine B.step (.inl ⟨_,_,s⟩) rel (rel.idx _ _ _ _ x) (Wf _) ⟨ok.hsz,J,λh=>absurd h q,λ_=>⟨by rw[ok.hsz];omega,.mapIter m d seen' st',o,t,by rw[n];simp[zui]⟩,λi c j a F I=>?_⟩;have z:=J i c F
 obtain⟨a0,rfl⟩:∃a0,c=[a0]:=by
  match c,z with
  |[a0],_=>exact⟨a0,rfl⟩
 have A:j=0/\a=a0:=by
  match j with
  |0=>cases I;exact⟨rfl,rfl⟩
  |j+1=>cases I
 obtain⟨rfl,rfl⟩:=A;obtain⟨v,N,y⟩:=O i a F;refine⟨v,?_,λh=>absurd h q,B.vr (.inl ⟨_,_,s⟩) rel y⟩;unfold zd0;rw[if_neg q];simp only[o,W8];exact N
theorem zHz{t e}{len}{b:TypeInfo}{d:TypeDesc}(N:P.underlying t=some (.array len e))(K:P.info? e=some b)(hd:P.underlying e=some d)(p:zdf d=true\/b.size=1){xv iv}{x i}(Q:VR w (Lt L ι H) ι xv x)(A:VR w (Lt L ι H) ι iv i)(u:(zvD len b.size (zdf d) x i H nx).side):zaR P w L ι H nx (Xu t xv iv) (zvD len b.size (zdf d) x i H nx):=by
 cases Q with
 |agg _ cs asv hsz h1 hv=>
  cases A with
  |int _ k n hn=>
   simp only[zvD]at u⊢;obtain⟨O,j,C⟩:=u;have B:n.toNat<len:=by omega
   have z:n.toNat*b.size+b.size<=len*b.size:=by have:(n.toNat+1)*b.size<=len*b.size:=Wu _ B;rw[Wh]at this;omega
   have J:(0<=n/\n<(len:Int)):=⟨O,j⟩
   cases D:zdf d with
   |true=>
    have q:VR w (Lt L ι H) ι (.agg (cs.extract (n.toNat*b.size) (n.toNat*b.size+b.size))) (.agg (sub asv (n.toNat*b.size) b.size)):=by
     have g:(cs.extract (n.toNat*b.size) (n.toNat*b.size+b.size)).size=b.size:=by simp;omega
     refine .agg _ _ _ (by rw[g,zqD _ _ _ (by omega)]) (λi v c=>?_) (λi v a c F=>?_)
     .have j:i<b.size:=by rw[<-g];exact(Wq.1 c).1
      rw[ziX _ _ _ _ (by omega) (by omega)]at c;exact h1 _ _ c
     .have j:i<b.size:=by rw[<-g];exact(Wq.1 c).1
      rw[ziX _ _ _ _ (by omega) (by omega)]at c;rw[zzq _ _ _ _ j]at F;exact hv _ _ _ c F
    simp only[cond_true];refine⟨_,?_,q,rfl,rfl,q.wf⟩;simp[Xu,asIntOf,Xa,run_underlying N,J,part,zfS hd,D,sizeOf,typeInfo,K]
   |false=>
    have m:b.size=1:=by rcases p with h|h;rw[D]at h;cases h;exact h
    rw[m,Wt]at z;have I:n.toNat<cs.size:=by rw[m,Wt]at C;omega
    simp only[cond_false,m,Wt];have y:cs[n.toNat]?=some cs[n.toNat]:=Wl I;have o:asv[n.toNat]?=some asv[n.toNat]:=Wm (by omega);have s:=hv _ _ _ y o;have e:asv.getD n.toNat .undef=asv[n.toNat]:=ztG o;rw[e];refine⟨_,?_,s,rfl,rfl,s.wf⟩;simp[Xu,asIntOf,Xa,run_underlying N,J,part,zfS hd,D,sizeOf,typeInfo,K,m,I]
  |_=>simp[zvD,bad]at u
 |_=>cases i<;>simp[zvD,bad]at u
theorem zFL{t e}{len}{b:TypeInfo}(B:P.underlying t=some (.array len e))(y:P.info? e=some b)(v:0<b.size){xv iv}{x i}(C:VR w (Lt L ι H) ι xv x)(h:VR w (Lt L ι H) ι iv i)(d:(zmK len b.size x i H nx).side):zaR P w L ι H nx (XK t xv iv) (zmK len b.size x i H nx):=by
 have run:∀(a:Addr)(k:IntKind)(n:Int),0<=n->n<(len:Int)->(XK t (.pointer (some a)) (.int k n)).run P w=.ok (.pointer (some (a.add (n.toNat*b.size)))) w:=by intro a k n o p;have s:(0<=n/\n<(len:Int)):=⟨o,p⟩;simp[XK,asIntOf,Xa,run_underlying B,Instr.sureAddr,s,sizeOf,typeInfo,y]
 cases C with
 |ptr _ r q g j f l hl hm=>
  cases h with
  |int _ k n hn=>simp only[zmK]at d⊢;refine⟨_,run _ k n d.1 d.2,?_,rfl,rfl,trivial⟩;rw[add_mid,Nat.add_assoc];exact .ptr _ r q g j _ l hl hm
  |_=>simp[zmK,bad]at d
 |iptr _ a m c V s hL hv=>
  cases h with
  |int _ k n hn=>
   simp only[zmK]at d⊢;obtain⟨o,p,D⟩:=d;have u:n.toNat<len:=by omega
   have z:n.toNat*b.size+b.size<=len*b.size:=by have:(n.toNat+1)*b.size<=len*b.size:=Wu _ u;rw[Wh]at this;omega
   refine⟨_,run _ k n o p,?_,rfl,rfl,trivial⟩;refine .iptr _ _ _ _ (λj=>V (n.toNat*b.size+j)) (λj A=>?_) (λ_=>by rw[zcP];exact hL (by omega)) (λj A=>hv _ (by omega));rw[Go.Deep.add_add];exact s _ (by omega)
  |_=>simp[zmK,bad]at d
 |_=>cases i<;>simp[zmK,bad]at d
theorem zvp{n:Nat}{k v}:∀ {ml:List MapEntry}{g:List (List AV)},(∀(i:Nat)(c:List AV),g[i]?=some c->∃e,ml[i]?=some e/\∃m o b,c=[m,o,b]/\VR w M ι e.key m/\VR w M ι e.val o/\VR w M ι (.int .i64 e.born) b) ->
  zIq (n:Int) g=some (k,v)->∃e,ml.find? (·.born == n)=some e/\VR w M ι e.key k/\VR w M ι e.val v
 |ml,[],_,h=>by cases h
 |
  ml,c::g,hr,h=>by
  obtain⟨e,q,m,o,b,rfl,t,u,x⟩:=hr 0 c rfl
  cases ml with
  |nil=>cases q
  |cons e' ml=>
   cases q;unfold zIq at h;try simp only at h
   cases b with
   |int ik b'=>
    cases x;try simp only at h
    by_cases p:(e.born:Int)=(n:Int)
    .rw[if_pos p]at h;cases h;have j:e.born=n:=by omega
     exact⟨e,by rw[List.find?_cons,show(e.born == n)=true by simp[j]],t,u⟩
    .rw[if_neg p]at h;obtain⟨s,y,z⟩:=zvp (ml:=ml) (λi d A=>hr (i+1) d A) h;refine⟨s,?_,z⟩;rw[List.find?_cons,show(e.born == n)=false by simp;omega];exact y
   |_=>first|(cases h;done)|(simp at h;done)
theorem zIH{xv:Value}{x:AV}(rel:RelH w L ι H nx)(hx:VR w (Lt L ι H) ι xv x)(h:(zz2 x H nx).side):zaR P w L ι H nx (XQ xv) (zz2 x H nx):=by
 cases hx with
 |it _ r l hl j=>
  unfold zz2 at h⊢;simp only at h⊢;split at h
  .rename_i sz m sn st seen g hg;split at h
   .rename_i rm qm t b d;split at h
    .rename_i sz2 hd es N S;split at h
     .rename_i c u u' k v n;obtain⟨rfl,rfl,rfl,rfl,rfl⟩:=h;obtain⟨l',z,I⟩:=rel.row _ _ _ _ _ hg;rw[hl]at z;cases z;have j:=I.noBox (by simp) j;obtain⟨m,sn',Z,Y,hb,X,U⟩:=I.iter j;obtain⟨v0,e0,r0⟩:=U 0 (.mp rm qm) rfl;cases e0
      cases r0 with
      |mp _ _ _ lm hlm hcm=>
       obtain⟨v2,e2,r2⟩:=U 2 (.int .i64 c) rfl;cases e2;obtain⟨l'',p,F⟩:=rel.row _ _ _ _ _ S;rw[hlm]at p;cases p;obtain⟨K,clock,R,C,o⟩:=F.map hcm;have hc:c=(clock:Int):=by obtain⟨v3,e3,r3⟩:=o 0 0 _ _ rfl rfl;cases e3;cases r3;rfl
       have W:Y=clock:=by cases r2;omega
       have V:seen≠[]:=by intro e;rw[e]at d;cases d
       have hlen:0<seen.length:=List.length_pos_iff.2 V;have T:seen[seen.length-1]?=some [.int .i64 b]:=by rw[<-List.getLast?_eq_getElem?];exact d
       have B:Z.size=seen.length:=by simp at X;omega
       obtain⟨v4,e4,r4⟩:=U (seen.length-1+3) (.int .i64 b) (by simpa using T);obtain⟨J,A⟩:∃J,Z[seen.length-1]?=some J:=⟨_,Wl (by omega)⟩;rw[zqY A]at e4;cases e4;have Q:b=(J:Int):=by cases r4;rfl
       have q:Z.back?=some J:=by rw[Array.back?_eq_getElem?,B];exact A
       rw[Q]at n
       obtain⟨e,h5,h6,h7⟩:=zvp (w:=w) (M:=Lt L ι H) (ι:=ι) (ml:=K.toList) (λi cs s=>by
        have D:=F.wide (i+1) cs (by simpa using s);have y:i<K.size:=by have:=(Wp.1 s).1;simp at C;omega
        refine⟨K[i],by rw[Wk];exact Wl y,?_⟩
        match cs,D,s with
        |[kk,vv,bb],_,s=>
         obtain⟨f1,f2,f3⟩:=zdd (clock:=clock) (Wl y);obtain⟨w1,g1,q1⟩:=o (i+1) 0 _ kk (by simpa using s) rfl;obtain⟨w2,N,q2⟩:=o (i+1) 1 _ vv (by simpa using s) rfl;obtain⟨w3,g3,q3⟩:=o (i+1) 2 _ bb (by simpa using s) rfl;rw[f1]at g1;cases g1;rw[f2]at N;cases N;rw[f3]at g3;cases g3
         exact⟨kk,vv,bb,rfl,q1,q2,q3⟩) n
       refine⟨.tuple #[e.key,e.val],?_,.tup _ _ _ rfl (λi v a h1 O=>?_),rfl,rfl,trivial⟩
       .have hf:K.find? (·.born == J)=some e:=by rw[<-Array.find?_toList];exact h5
        simp only[XQ,getObj,Xa,Sem.run,hb,R,Result.andThen,q,W,bne_self_eq_false,W7,if_false,hf];rfl
       .match i with
        |0=>cases h1;cases O;exact h6
        |1=>cases h1;cases O;exact h7
        |i+2=>cases O
     .exact h.elim
    .exact h.elim
   .exact h.elim
  .exact h.elim
 |_=>simp[zz2,bad]at h
end
end Go.Ab
namespace Go.Ab
open Go.RowKit
section
variable {P:Program}{w:World}{L:Nat->Prop}{ι:Inj}{H:AH}{nx:Nat}{M:Nat->Prop}
theorem zCJ{t e}{len}{i:TypeInfo}{z}{parts}{qs}(q:P.underlying t=some (.array len e))(n:P.info? e=some i)(s:zhC P t=some z)(g:PL w (Lt L ι H) ι (λj=>some (j*i.size,i.size)) parts.toList qs)(o:(zg3 z qs H nx).side):zaR P w L ι H nx (XR t parts) (zg3 z qs H nx):=by
 obtain⟨v,x,d,h,p,u,c⟩:=zgN s;obtain⟨b,k,m⟩:=zEp g (c w (Lt L ι H) ι) o;refine⟨.agg b,?_,m.agg,rfl,rfl,trivial⟩;simp only[XR,zeroValue,typeInfo,sizeOf,Xa,run_program,Xc,d,n,XA,h,run_underlying q,k]
def CV(w:World)(M:Nat->Prop)(ι:Inj)(x:Value)(b:List AV):Bool->Prop
 |false=>∃a,b=[a]/\VR w M ι x a
 |true=>∃c:Array Value,x=.agg c/\c.size=b.length/\∀(i:Nat)(v:Value)(a:AV),c[i]?=some v->b[i]?=some a->VR w M ι v a
theorem zrr{s}{ss}{asv bs}{r}(h:zT (s::ss) asv bs=some r):(s=0\/s=1\/s=2)/\∃a c b d,asv=a::c/\bs=b::d:=by
 unfold zT at h;split at h
 .rename_i e;cases e
 .rename_i e;cases e;exact⟨.inl rfl,_,_,_,_,rfl,rfl⟩
 .rename_i e;cases e;exact⟨.inr (.inl rfl),_,_,_,_,rfl,rfl⟩
 .rename_i e;cases e;exact⟨.inr (.inr rfl),_,_,_,_,rfl,rfl⟩
 .cases h
theorem zs4:∀{d:List Nat}{c e:List AV}{r:Bool},zT d c e=some r->c.length=d.length/\e.length=d.length:=by
 intro d
 induction d with
 |nil=>intro c e r h;cases c<;>cases e<;>simp_all [zT]
 |cons s d ih=>
  intro c e r h;obtain⟨o,a,m,b,n,rfl,rfl⟩:=zrr h;rcases o with rfl|rfl|rfl
  .obtain⟨k,x,y,j,rfl,rfl,g,rfl⟩:=zlx h;have:=ih g;simp[this.1,this.2]
  .obtain⟨x,y,j,rfl,rfl,g,rfl⟩:=zlw h;have:=ih g;simp[this.1,this.2]
  .obtain⟨x,y,j,rfl,rfl,g,rfl⟩:=zjQ h;have:=ih g;simp[this.1,this.2]
theorem zAe:∀{d p:List Nat}{c j:List AV}{r:Bool},zT (d++p) c j=some r ->
  ∃e g,zT d (c.take d.length) (j.take d.length)=some e/\zT p (c.drop d.length) (j.drop d.length)=some g/\r=(e&&g):=by
 intro d
 induction d with
 |nil=>intro p c j r h;exact⟨true,r,by simp[zT],by simpa using h,by simp⟩
 |cons s d ih=>
  intro p c j r h;obtain⟨v,a,t,b,u,rfl,rfl⟩:=zrr h;rcases v with rfl|rfl|rfl
  .obtain⟨k,x,y,q,rfl,rfl,m,rfl⟩:=zlx h;obtain⟨e,g,n,o,rfl⟩:=ih m;exact⟨decide (x=y)&&e,g,by simp[zT,n],by simpa using o,by simp[WS]⟩
  .obtain⟨x,y,q,rfl,rfl,m,rfl⟩:=zlw h;obtain⟨e,g,n,o,rfl⟩:=ih m;exact⟨decide (x=y)&&e,g,by simp[zT,n],by simpa using o,by simp[WS]⟩
  .obtain⟨x,y,q,rfl,rfl,m,rfl⟩:=zjQ h;obtain⟨e,g,n,o,rfl⟩:=ih m;exact⟨(x == y)&&e,g,by simp[zT,n],by simpa using o,by simp[WS]⟩
theorem zCL{t}{s}(h:zrn P t=some s):∃d,P.underlying t=some d/\zdf d=false:=by
 unfold zrn at h;split at h<;>first|(cases h;done)|skip
 .rename_i b;exact⟨_,b,rfl⟩
 .rename_i b;exact⟨_,b,rfl⟩
 .rename_i b;exact⟨_,b,rfl⟩
theorem zpe:∀(d:Nat)(t:TypeId)(ss:List Nat),zu4 P d t=some ss->∃Y,P.underlying t=some Y /\
  ∀(n:Nat),d<=n->∀(x y:Value)(c z:List AV)(r:Bool),CV w M ι x c (zdf Y)->CV w M ι y z (zdf Y)->zT ss c z=some r->(XH (n+1) t x y).run P w=.ok r w
 |0,t,ss,h=>by cases h
 |
  d+1,t,ss,h=>by
  unfold zu4 at h;split at h
  .rename_i s D;cases h;obtain⟨Y,o,hrow⟩:=zCL D;refine⟨Y,o,λn _ x y c z r W X K=>?_⟩;rw[hrow]at W X;obtain⟨a,rfl,I⟩:=W;obtain⟨b,rfl,J⟩:=X;unfold zrn at D;split at D
   .rename_i k o;cases D;obtain⟨k1,n1,n2,t',rfl,rfl,A,rfl⟩:=zlx K;cases I;cases J;simp[zT]at A;subst A;rw[WU];exact run_equalIn_int w n t k1 k n1 n2 o
   .rename_i o;cases D;obtain⟨n1,n2,t',rfl,rfl,A,rfl⟩:=zlw K;cases I;cases J;simp[zT]at A;subst A;rw[run_equalIn_string w n t _ _ o,znf,WU]
   .rename_i o;cases D;obtain⟨n1,n2,t',rfl,rfl,A,rfl⟩:=zjQ K;cases I;cases J;simp[zT]at A;subst A;rw[WU];exact run_equalIn_bool' w n t _ _ o
   .cases D
  .rename_i D;split at h
   .rename_i fs o;split at h
    .rename_i hst;refine⟨_,o,λn hn x y c z r W X K=>?_⟩;obtain⟨xs,rfl,S,T⟩:=W;obtain⟨ys,rfl,U,V⟩:=X;obtain⟨m,rfl⟩:∃m,n=m+1:=⟨n-1,by omega⟩;have Z:P.fieldsOf t=fs:=by unfold Program.fieldsOf;rw[o]
     rw[run_equalIn_struct w (m+1) t xs ys (by rw[Z];exact o) hst,Z];exact zoR (P:=P) (w:=w) m T V S U fs.toList 0 ss r h (by simpa using K)
    .cases h
   .rename_i len e o;split at h
    .rename_i l i N hi;split at h
     .rename_i hsz;cases h;obtain⟨de,R,ih⟩:=zpe d e l N;refine⟨_,o,λn hn x y c z r W X K=>?_⟩;obtain⟨xs,rfl,S,T⟩:=W;obtain⟨ys,rfl,U,V⟩:=X;obtain⟨m,rfl⟩:∃m,n=m+1:=⟨n-1,by omega⟩;have hc:P.cellsOf e=l.length:=by unfold Program.cellsOf;rw[hi];exact hsz
      rw[run_equalIn_array w (m+1) xs ys o hi,hc]
      have g:∀{F:Array Value}{p:List AV}(j:Nat),F.size=p.length->(∀(i:Nat)(v:Value)(a:AV),F[i]?=some v->p[i]?=some a->VR w M ι v a)->j*l.length+l.length<=p.length ->
        ∃v,(part e F (j*l.length)).run P w=.ok v w/\CV w M ι v ((p.drop (j*l.length)).take l.length) (zdf de):=by
       intro F p j hz1 hz2 hle
       cases hr:zdf de with
       |true=>
        refine⟨.agg (F.extract (j*l.length) (j*l.length+l.length)),?_,F.extract (j*l.length) (j*l.length+l.length),rfl,by simp;omega,λq v a hq ha=>?_⟩
        .simp[part,Xa,zfS R,hr,sizeOf,typeInfo,hi,hsz]
        .have u:q<l.length:=by have:=(Wq.1 hq).1;simp at this;omega
         rw[ziX _ _ _ _ (by omega) (by omega)]at hq;rw[Wac,if_pos u,Wad]at ha;exact hz2 _ _ _ hq ha
       |false=>
        have h1:l.length=1:=by
         obtain⟨d',rfl⟩:∃d',d=d'+1:=by
          cases d with
          |zero=>cases N
          |succ d'=>exact⟨d',rfl⟩
         unfold zu4 at N;split at N
         .cases N;rfl
         .rw[R]at N;cases de<;>first|(cases hr;done)|(cases N;done)
        have u:j*l.length<F.size:=by omega
        have ha:p[j*l.length]?=some p[j*l.length]:=Wm (by omega);refine⟨F[j*l.length],?_,p[j*l.length],?_,hz2 _ _ _ (Wl u) ha⟩
        .simp[part,Xa,zfS R,hr,u]
        .have Q:∀(x:AV)(r:List AV)(n:Nat),n=1->(x::r).take n=[x]:=λx r n hn=>by subst hn;rfl
         rw[WN (show j*l.length<p.length by omega)];exact Q _ _ _ h1
      have go:∀(k j:Nat)(r:Bool),zT (List.replicate k l).flatten (c.drop (j*l.length)) (z.drop (j*l.length))=some r->(XL (m+1) e l.length xs ys (List.range' j k)).run P w=.ok r w:=by
       intro k
       induction k with
       |zero=>intro j r h;have:=zs4 h;simp at this;have e1:c.drop (j*l.length)=[]:=WD (by simp;omega);have e2:z.drop (j*l.length)=[]:=WD (by simp;omega);rw[e1,e2]at h;simp[zT]at h;subst h;simp[XL]
       |succ k ihk=>
        intro j r h;have B:=zs4 h;rw[List.replicate_succ,List.flatten_cons]at h B;rw[WG,WV,WV]at B;obtain⟨r1,r2,h1,h2,rfl⟩:=zAe h;rw[List.drop_drop,List.drop_drop,show j*l.length+l.length=(j+1)*l.length by rw[Wh];omega]at h2
        have C:j*l.length+l.length<=c.length/\j*l.length+l.length<=z.length:=by
         rcases Wae l.length with hz|hz
         .rw[hz];simp
         .omega
        obtain⟨v1,p1,c1⟩:=g j S T C.1;obtain⟨v2,p2,c2⟩:=g j U V C.2;have heq:=ih m (by omega) v1 v2 _ _ r1 c1 c2 h1;have O:=ihk (j+1) r2 h2;rw[List.range'_succ];simp only[XL,Xa,p1,p2,Xc,heq];cases r1
        .simp
        .simpa using O
      have:=go len 0 r (by simpa using K);rw[List.range_eq_range'];exact this
     .cases h
    .cases h
   .cases h
theorem zFT{t e:TypeId}{len:Nat}{j:List Nat}{neg:Bool}{x y:Operand}{s u:Value}{a b:AV}(A:P.underlying t=some (.array len e))(z:zu4 P 5 t=some j)(o:P.eqGuardType P.depth t=false)(C:VR w (Lt L ι H) ι s a)(D:VR w (Lt L ι H) ι u b)(d:(eqsR neg j a b H nx).side) :
  zaR P w L ι H nx (do eqGuard (bif neg then .neq else .eql) t x y s u;binOp (bif neg then .neq else .eql) t s u) (eqsR neg j a b H nx):=by
 cases C with
 |agg _ k asv p h1 B=>
  cases D with
  |agg _ m bs g h2 q=>
   unfold eqsR at d⊢;simp only at d⊢
   cases n:zT j asv bs with
   |none=>simp[n,bad]at d
   |some r=>
    simp only[n]at d⊢;obtain⟨F,h,key⟩:=zpe (P:=P) (w:=w) (M:=Lt L ι H) (ι:=ι) 5 t j z;rw[A]at h;cases h;have c:(XP t (.agg k) (.agg m)).run P w=.ok r w:=key 9999 (by omega) _ _ asv bs r ⟨k,rfl,p,B⟩ ⟨m,rfl,g,q⟩ n;have v:=λ(op:BinOp)=>run_eqGuard_agg (P:=P) w op t x y k m o
    cases neg
    .refine⟨.bool r,?_,.bool _ _,rfl,rfl,trivial⟩;simp[Xa,v,binOp,c]
    .refine⟨.bool (!r),?_,.bool _ _,rfl,rfl,trivial⟩;simp[Xa,v,binOp,c]
  |_=>simp[eqsR,bad]at d
 |_=>cases b<;>simp[eqsR,bad]at d
end
section
variable {P:Program}{w:World}{L:Nat->Prop}{ι:Inj}{H:AH}{nx:Nat}{M:Nat->Prop}
theorem zIx{t e ty}{xv}{x}(c:P.underlying t=some (.slice e))(d:VR w (Lt L ι H) ι xv x)(b:(zzy x H nx).side):zaR P w L ι H nx (XM #[t] ty #[xv]) (zzy x H nx):=by
 cases d with
 |nilsl _=>exact⟨.int .i64 0,by simp[XM,run_underlying c,goInt],.int _ _ _ (by unfold InR;decide),rfl,rfl,trivial⟩
 |_=>simp[zzy,bad]at b
theorem zJ0{t W e ty:TypeId}{kq:IntKind}{i:TypeInfo}{z:List AV}{xv kv:Value}{x k:AV}(rel:RelH w L ι H nx)(hu:P.underlying t=some (.slice e))(Y:P.underlying W=some (.int kq))(S:P.info? e=some i)(hz:zhC P e=some z)(hx:VR w (Lt L ι H) ι xv x)(g:VR w (Lt L ι H) ι kv k)(N:(apzR i.size i.bytes z x k H nx).side):zfV P w L ι H nx (Xi #[t,W] ty #[xv,kv]) (apzR i.size i.bytes z x k H nx):=by
 obtain⟨i',d,F,J,T,V,R⟩:=zgN hz;rw[S]at F;cases F
 cases hx with
 |nilsl _=>
  cases g with
  |int _ kn n hin=>
   simp only[apzR]at N⊢;obtain⟨p,Q,q,hby⟩:=N;have hnb:n<=140737488355328:=by have:n*(1:Int)<=n*i.bytes:=Int.mul_le_mul_of_nonneg_left (by omega) p;omega
   rcases Int.lt_or_eq_of_le p with Z|Z
   .obtain⟨m,rfl⟩:∃m:Nat,n=m:=⟨n.toNat,by omega⟩;simp only[Int.toNat_natCast]
    have hmb:m*i.bytes<=140737488355328:=by
     have:((m*i.bytes:Nat):Int)<=140737488355328:=by rw[Int.natCast_mul];exact Q
     omega
    have hm:m<=maxLen:=by unfold maxLen;omega
    have I:=Go.Lib.run_append_nil_zeros (P:=P) w t W ty e i d kn kq hu Y S J m (by omega) q (by omega) (by omega);have C:=grownCap_ge w m 0 e;have D:=grownCap_le_maxLen w m 0 e hm;have B:=FR.zeros (n:=m) (R w (Lt L ι H) ι) V q;have o:d.cells.size=i.size:=by rw[T]
    have y:(Xb d.cells m++Xb d.cells (grownCap w m 0 e-m)).size=grownCap w m 0 e*i.size:=by rw[Waf,size_zeroCells,size_zeroCells,o,<-Wh];congr 1;omega
    have K:Chg w ι H nx 0 0 ⟨w.heap.size,0,grownCap w m 0 e,i.size⟩ (w.drew.alloc (.cells (Xb d.cells m++Xb d.cells (grownCap w m 0 e-m)) e)) :=
     ⟨rfl,rfl,rfl,by simp,λb Q _=>Xq w.drew _ b Q,λ_=>.inr (Wf _),λl0 p=>(by rw[rel.freshI]at p;cases p),λg2 l2 u=>(by rw[rel.freshI]at u;cases u)⟩
    refine⟨_,_,_,I,K.step (rel.sok i.size) rel (Wn _) (Wo _) (.mk' rfl (by rw[List.length_replicate];exact C) D (λk g=>?_) (λ_=>FzOk.new) B.wide (λk c j a g hj=>?_)),?_,trivial⟩
    .simp only[Wv];have e1:=Xp w.drew (Xb d.cells m++Xb d.cells (grownCap w m 0 e-m)) e k;have e2:=XS w.drew (Xb d.cells m++Xb d.cells (grownCap w m 0 e-m)) e k;have s:(w.drew.alloc (.cells (Xb d.cells m++Xb d.cells (grownCap w m 0 e-m)) e)).cell? ⟨w.heap.size,k,none⟩=_:=e1;have O:(w.drew.alloc (.cells (Xb d.cells m++Xb d.cells (grownCap w m 0 e-m)) e)).frozen? ⟨w.heap.size,k,none⟩=_:=e2;rw[s,O];refine⟨?_,rfl⟩;rw[Wl (by rw[y];exact g)];rfl
    .obtain⟨v,X,u,h3⟩:=B.rel k c j a g hj;refine⟨v,?_,u,K.vr (rel.sok i.size) rel h3⟩;simp only[Wv];have s:(w.drew.alloc (.cells (Xb d.cells m++Xb d.cells (grownCap w m 0 e-m)) e)).cell? ⟨w.heap.size,k*i.size+j,none⟩=_:=Xp w.drew _ _ _;have A:(Xb d.cells m)[k*i.size+j]?=some v:=by unfold Xb;rw[o];rw[o]at X;exact X
     rw[s,WM (Wq.1 A).1];exact A
    .exact .own _ nx 0 0 0 m _ _ _ (Xh _ _ _ _ _) D C (by simp) (λ_=>by simp)
   .subst Z;have K:Chg w ι H nx 0 0 ⟨0,0,0,i.size⟩ w:=⟨rfl,rfl,rfl,Wf _,λ_ _ _=>rfl,λh=>by simp at h,λl0 p=>(by rw[rel.freshI]at p;cases p),λg2 l2 u=>(by rw[rel.freshI]at u;cases u)⟩;refine⟨.slice none 0 0,w,_,?_,K.step (rel.sok i.size) rel (Wn _) (Wo _) (.mk' rfl (Wf _) (Wr _) (λk g=>by simp at g) (λh=>by simp at h) (λk c' g=>by simp at g) (λk c' j a g _=>by simp at g)),?_,trivial⟩
    .have U:IntKind.i64.wrap (0:Int)=0:=by rw[IntKind.wrap_i64];omega
     simp[Xi,run_underlying hu,run_underlying Y,sizeOf,typeInfo,zeroValue,S,J,asInt,asIntOf,U]
    .exact .own _ nx 0 0 0 0 _ 0 _ (Xh _ _ _ _ _) (Wr _) (Wf _) (Wf _) (λh=>by omega)
  |_=>simp[apzR,bad]at N
 |_=>cases k<;>simp[apzR,bad]at N
end
def zn1(w:World)(L:Nat->Prop)(ι:Inj)(H:AH)(nx:Nat)(d:Result Next)(r:ORes)(pure:Bool):Prop :=
 ∃n v c b,d=.ok n c/\(n=.value v\/(n=.skip/\v=undef))/\Step w L ι H nx c b r.H r.nx/\VR c (Lt L b r.H) b v r.v/\r.fact /\
  (pure=true->c=w/\b=ι/\r.H=H/\r.nx=nx)
section
variable {P:Program}{w:World}{L:Nat->Prop}{ι:Inj}{H:AH}{nx:Nat}{M:Nat->Prop}
theorem zGh{s:Sem Value}{v}{w'}(h:s.run P w=.ok v w'):(do pure (Xe (<-s)):Sem Next).run P w=.ok (.value v) w':=by simp[Xa,h]
theorem zKL{s:Sem Unit}{w'}(h:s.run P w=.ok () w'):(do s;pure Next.skip:Sem Next).run P w=.ok .skip w':=by simp[Xa,h]
theorem zaR.done{s:Sem Value}{r:ORes}{pure}(rel:RelH w L ι H nx)(h:zaR P w L ι H nx s r):zn1 w L ι H nx ((do Xf (Xe (<-s)):Sem Next).run P w) r pure:=by
 obtain⟨v,d,e,b,c,g⟩:=h;refine⟨_,v,w,ι,zGh d,.inl rfl,?_,?_,g,λ_=>⟨rfl,rfl,b,c⟩⟩
 .rw[b,c];exact .refl rel
 .rw[b];exact e
theorem zfV.done{s:Sem Value}{r:ORes}(h:zfV P w L ι H nx s r):zn1 w L ι H nx ((do Xf (Xe (<-s)):Sem Next).run P w) r false:=by obtain⟨v,j,b,c,d,e,g⟩:=h;exact⟨_,v,j,b,zGh c,.inl rfl,d,e,g,λh=>by cases h⟩
theorem ziD{a:Act}{K}(g:KOk w M ι a.tmps K):∀ {e:List (Nat×Operand)}{d:List (Nat×AOpd)},(e.mapM λp=>do some (p.1,(<-copd p.2)))=some d ->
  EL w M ι (e.map λp=>(p.1,a.eval p.2)) (zkD K d)
 |[],d,h=>by simp at h;subst h;exact .nil
 |
  p::e,d,h=>by
  simp only[WH,Wc,WW,Wa,Wd]at h;obtain⟨b,⟨c,j,rfl⟩,bs,hbs,rfl⟩:=h;exact .cons (zt g j) (ziD g hbs)
theorem zlO{a:Act}{K}(k:KOk w M ι a.tmps K){fs:Array Field}{place}(d:∀(i:Nat)(f:Field)(e:TypeInfo),fs[i]?=some f->P.info? f.type=some e->place i=some (f.offset,e.size)) :
  ∀ {j:List (Nat×Operand)}{g:List (Nat×Nat×AOpd)},(j.mapM λp=>do
    let f <-fs[p.1]?
    let i <-P.info? f.type
    some (f.offset,i.size,(<-copd p.2)))=some g ->
  PL w M ι place (j.map λp=>(p.1,a.eval p.2)) (zeD K g)
 |[],g,h=>by simp at h;subst h;exact .nil
 |
  p::j,g,h=>by
  simp only[WH,Wc,WW,Wa,Wd]at h;obtain⟨b,⟨f,n,i,o,c,m,rfl⟩,bs,hbs,rfl⟩:=h;exact .cons (d _ _ _ n o) (zt k m) (zlO k d hbs)
theorem zCF{t}{i:TypeInfo}(b:P.info? t=some i)(w):(sizeOf t).run P w=.ok i.size w:=by simp[sizeOf,typeInfo,b]
theorem zu0(P):∀(b:List Field),(∀f∈b,(P.info? f.type).isSome=true)->∀w:World,
  (b.mapM (m:=Sem) λ(f:Field)=>do pure (f.offset,<-sizeOf f.type)).run P w=.ok (b.map λf=>(f.offset,((P.info? f.type).map (·.size)).getD 0)) w
 |[],_,w=>by simp
 |
  f::b,h,w=>by
  have e:=zu0 P b (λg d=>h g (List.mem_cons_of_mem _ d)) w;obtain⟨i,c⟩:=W0.1 (h f (by simp));simp only[WH,Xa,zCF c,Xc,XA,WL,c,WE,WP,e]
theorem zzo(P)(b:Array Field)(h:b.toList.all (λf=>(P.info? f.type).isSome)=true)(w):
  (b.mapM (m:=Sem) λ(f:Field)=>do pure (f.offset,<-sizeOf f.type)).run P w=.ok (b.toList.map λf=>(f.offset,((P.info? f.type).map (·.size)).getD 0)).toArray w:=by
 rw[Array.mapM_eq_mapM_toList,Sem.run_map,zu0 P b.toList (λf c=>List.all_eq_true.1 h f c) w];rfl
theorem zJe{a:Act}{K}(d:KOk w M ι a.tmps K){x}{y}(h:zK0 x=some y):VRO w M ι (x.map a.eval) (evO K y):=by
 cases x with
 |none=>cases h;exact .none
 |some x=>obtain⟨c,b,rfl⟩:=We.1 h;exact .some (zt d b)
def AOp.isCall:AOp->Bool
 |.call .. |.callq .. |.callv .. |.isnil .. |.mnext .. |.append2 ..=>true
 |_=>false
theorem zJ2{o}{ao}(h:cop0 P o=some ao)(D:ao.isCall=false){a:Act}{K}(rel:RelH w L ι H nx)(m:KOk w (Lt L ι H) ι a.tmps K)(B:(aop ao K H nx).side):
  zn1 w L ι H nx ((execOp a.eval o).run P w) (aop ao K H nx) ao.pure:=by
 have mov:∀x:Operand,o.op=.move x\/o.op=.assign x->(match x with
   |
    .const (.slice none 0 0)=>match P.underlying o.type with
    |
     some (.slice e)=>match P.info? e with
     |some i=>if 0<i.size then some (AOp.mknil i.size)else none
     |none=>none
    |_=>none
   |_=>(copd x).map .mov)=some ao->zn1 w L ι H nx (.ok (.value (a.eval x)) w) (aop ao K H nx) ao.pure:=by
  intro x _ g;split at g
  .split at g
   .split at g
    .split at g
     .rename_i i C A;cases g;refine⟨_,_,w,_,rfl,.inl rfl,Step.phantom rel i.size,?_,trivial,λh=>by cases h⟩;exact .own _ nx 0 0 0 0 _ 0 _ (Xh _ _ _ _ _) (Wr _) (Wf _) (Wf _) (λh=>absurd h (Nat.lt_irrefl 0))
     .cases g
    .cases g
   .cases g
  .obtain⟨c,Q,rfl⟩:=We.1 g;exact⟨_,_,w,ι,rfl,.inl rfl,.refl rel,zt m Q,trivial,λ_=>⟨rfl,rfl,rfl,rfl⟩⟩
 unfold cop0 at h;unfold execOp
 cases j:o.op with
 |move x=>rw[j]at h;exact mov x (.inl j) h
 |assign x=>rw[j]at h;exact mov x (.inr j) h
 |pick c x y=>rw[j]at h;simp only[Wc,Wa,Wd]at h;obtain⟨c',Q,q,g,Y,T,rfl⟩:=h;have:=(zHB (P:=P) (zt m Q) (zt m g) (zt m T) B).done (pure:=true) rel;simp[Xa]at this⊢;exact this
 |alloc e=>rw[j]at h;obtain⟨z,S,rfl⟩:=We.1 h;exact(zFt rel S).done
 |box e x=>rw[j]at h;obtain⟨q,g,rfl⟩:=We.1 h;exact(zKY rel (zt m g) B).done
 |load t x=>
  rw[j]at h;simp only at h;split at h
  .rename_i d i n C;split at h
   .rename_i hd;obtain⟨q,g,rfl⟩:=We.1 h;have I:(zd5 (zdf d) i.size (ev K q) H nx).side:=by rw[hd];exact B
    have:zaR P w L ι H nx (XT t (a.eval x)) (zd5 (zdf d) i.size (ev K q) H nx):=zvF n C rel (zt m g) (by rw[if_pos hd]) I;rw[hd]at this;exact this.done rel
   .rename_i hd;have hd':zdf d=false:=by simpa using hd
    obtain⟨q,g,rfl⟩:=We.1 h;have I:(zd5 (zdf d) 1 (ev K q) H nx).side:=by rw[hd'];exact B
    have:zaR P w L ι H nx (XT t (a.eval x)) (zd5 (zdf d) 1 (ev K q) H nx):=zvF n C rel (zt m g) (by rw[if_neg hd]) I;rw[hd']at this;exact this.done rel
  .cases h
 |store t x y=>
  rw[j]at h;simp only at h;split at h
  .rename_i i C;simp only[Wc,Wa,Wd]at h;obtain⟨q,g,Y,T,rfl⟩:=h;obtain⟨w',ι',h1,h2,h3,h4⟩:=zDU rel C (zt m g) (zt m T) B;exact⟨_,undef,w',ι',zKL h1,.inr ⟨rfl,rfl⟩,h2,by rw[show(aop (.store i.size q Y) K H nx).v=.undef from h4];exact .undef _ _,h3,λh=>by cases h⟩
  .cases h
 |build t parts=>
  rw[j]at h;simp only at h;split at h
  .rename_i fs z n S;split at h
   .rename_i hall;simp only[Wc,Wa,Wd]at h;obtain⟨ps,W,rfl⟩:=h
    have hpl:=zlO (P:=P) m (fs:=fs) (place:=λi=>(fs.toList.map λf=>(f.offset,((P.info? f.type).map (·.size)).getD 0)).toArray[i]?) (λi f inf U C=>by
     rw[WA,WB,Wk,U]
     simp[C]) (by simpa using W)
    have R:(parts.map λ(p:Nat×Operand)=>(p.1,a.eval p.2)).toList=parts.toList.map λp=>(p.1,a.eval p.2):=by simp
    have:=zEa (P:=P) (parts:=parts.map λ(p:Nat×Operand)=>(p.1,a.eval p.2)) n S (λw=>zzo P fs hall w) (by rw[R];exact hpl) B;exact this.done rel
   .cases h
  .cases h
 |buildSlice t len parts=>
  rw[j]at h;simp only at h;split at h
  .rename_i e n;split at h
   .rename_i i z C S;split at h
    .rename_i Q;simp only[Wc,Wa,Wd]at h;obtain⟨ps,W,rfl⟩:=h;have hel:=ziD m (by simpa using W);have R:(parts.map λ(p:Nat×Operand)=>(p.1,a.eval p.2)).toList=parts.toList.map λp=>(p.1,a.eval p.2):=by simp
     have:=zzL (P:=P) (parts:=parts.map λ(p:Nat×Operand)=>(p.1,a.eval p.2)) rel n C S Q.1 Q.2 (by rw[R];exact hel) B;exact this.done
    .cases h
   .cases h
  .cases h
 |binOp op t x y yt=>
  rw[j]at h;simp only at h;split at h
  .simp only[Wc,Wa,Wd]at h;obtain⟨q,g,Y,T,rfl⟩:=h;exact(zKv (P:=P) (zt m g) (zt m T) B).done rel
  .rename_i n;split at h
   .simp only[Wc,Wa,Wd]at h;obtain⟨q,g,Y,T,rfl⟩:=h;exact(zJn (P:=P) (neg:=false) n (zt m g) (zt m T) B).done rel
   .simp only[Wc,Wa,Wd]at h;obtain⟨q,g,Y,T,rfl⟩:=h;exact(zJn (P:=P) (neg:=true) n (zt m g) (zt m T) B).done rel
   .cases h
  .exfalso
   (repeat' split at h)<;>first|(cases h;done)|(obtain⟨_,_,rfl⟩:=We.1 h;cases D)
  .exfalso
   (repeat' split at h)<;>first|(cases h;done)|(obtain⟨_,_,rfl⟩:=We.1 h;cases D)
  .cases h
 |unOp op t x=>rw[j]at h;obtain⟨q,g,rfl⟩:=We.1 h;exact(unR_ok (P:=P) (zt m g) B).done rel
 |convert s d x=>
  rw[j]at h;simp only at h;split at h
  .rename_i k' k h1 h2;obtain⟨q,g,rfl⟩:=We.1 h;exact(zGR (P:=P) h1 h2 (zt m g) B).done rel
  .cases h
 |makeFunc fn first Z=>
  rw[j]at h;simp only at h;split at h
  .rename_i U;obtain⟨cs,hcs,rfl⟩:=We.1 h;have hvs:=zpd m hcs;have hfe:first=#[]:=Array.eq_empty_of_size_eq_zero U;subst hfe;refine⟨_,.func fn #[] (Z.map a.eval),w,ι,?_,.inl rfl,.refl rel,?_,trivial,λ_=>⟨rfl,rfl,rfl,rfl⟩⟩
   .simp[Instr.makeFunc,Xa]
   .refine .fn _ _ _ _ ?_ (λi v b h1 h2=>hvs.get i v b ?_ h2)
    .rw[Array.size_map,<-hvs.length];simp
    .rw[<-h1,<-Wk,W3]
  .cases h
 |makeSlice t l c=>
  rw[j]at h;simp only at h;split at h
  .rename_i e n;split at h
   .rename_i i z C S;split at h
    .rename_i A;simp only[Wc,Wa,Wd]at h;obtain⟨l',hl,c',Q,rfl⟩:=h;exact(zJc (P:=P) rel n C S A (zt m hl) (zt m Q) B).done
    .cases h
   .cases h
  .cases h
 |slice t x lo C mx=>
  rw[j]at h;simp only at h;split at h
  .rename_i e n;split at h
   .rename_i i V;split at h
    .simp only[Wc,Wa]at h;obtain⟨q,g,l',hl,h',hh,h⟩:=h;split at h
     .cases h;have:=zFE (P:=P) rel n V (zt m g) (zJe m hl) (zJe m hh) B;exact this.done rel
     .cases h
    .split at h
     .obtain⟨q,g,rfl⟩:=We.1 h;have:=zLa (P:=P) n V (zt m g) B;exact this.done rel
     .cases h
    .cases h
   .cases h
  .cases h
 |fieldAddr s x f=>
  rw[j]at h;simp only at h;split at h
  .rename_i fs n;simp only[Wc,Wa]at h;obtain⟨fd,U,i,C,h⟩:=h;split at h
   .rename_i A;obtain⟨q,g,h⟩:=Wa.1 h;cases h;exact(zAC (P:=P) n U C A (zt m g) B).done rel
   .cases h
  .cases h
 |field s x f=>
  rw[j]at h;simp only at h;split at h
  .rename_i fs n;simp only[Wc,Wa]at h;obtain⟨fd,U,i,C,d,hd,h⟩:=h;split at h
   .rename_i X;obtain⟨q,g,h⟩:=Wa.1 h;cases h;have I:(fldR fd.offset i.size (zdf d) (ev K q) H nx).side:=by rw[X];exact B
    have:=zGK (P:=P) n U C hd (zt m g) (by rw[if_pos X]) I;rw[X]at this;exact this.done rel
   .rename_i X;have hr':zdf d=false:=by simpa using X
    obtain⟨q,g,h⟩:=Wa.1 h;cases h;have I:(fldR fd.offset 1 (zdf d) (ev K q) H nx).side:=by rw[hr'];exact B
    have:=zGK (P:=P) n U C hd (zt m g) (by rw[if_neg X]) I;rw[hr']at this;exact this.done rel
  .cases h
 |indexAddr t x i=>
  rw[j]at h;simp only at h;split at h
  .rename_i e n;split at h
   .rename_i inf C;split at h
    .rename_i A;simp only[Wc,Wa,Wd]at h;obtain⟨q,g,i',hi',rfl⟩:=h;exact(zKJ (P:=P) n C A rel (zt m g) (zt m hi') B).done rel
    .cases h
   .cases h
  .cases h
 |extract x i=>rw[j]at h;obtain⟨q,g,rfl⟩:=We.1 h;exact(zKZ (P:=P) (zt m g) B).done rel
 |call c=>
  rw[j]at h;simp only at h;split at h
  .rename_i b hb
   have J:∀(s:Sem Value)(bb:Bool),(∀w:World,(do let d <-resolve a.eval c o.type;invoke d.target d.args:Sem Next).run P w=(do Xf (Xe (<-s)):Sem Next).run P w) ->
     (∀r,zn1 w L ι H nx ((do Xf (Xe (<-s)):Sem Next).run P w) r bb->zn1 w L ι H nx ((do let d <-resolve a.eval c o.type;invoke d.target d.args:Sem Next).run P w) r bb):=by
    intro s bb he r hd;rw[he];exact hd
   unfold zfD at h;split at h
   .rename_i t x ht g;have N:c.argTypes=#[t]:=by rw[<-Wg (xs:=c.argTypes),ht]
    have O:c.args=#[x]:=by rw[<-Wg (xs:=c.args),g]
    split at h
    .rename_i e n;obtain⟨q,F,rfl⟩:=We.1 h;exact J (Xn #[t] o.type #[a.eval x]) true (λw=>by simp[resolve,hb,N,O,invoke,builtin]) _ ((zKq (P:=P) n (zt m F) B).done rel)
    .rename_i n;obtain⟨q,F,rfl⟩:=We.1 h;exact J (Xn #[t] o.type #[a.eval x]) true (λw=>by simp[resolve,hb,N,O,invoke,builtin]) _ ((zGV (P:=P) n (zt m F) B).done rel)
    .cases h
   .rename_i t u x y ht g;have N:c.argTypes=#[t,u]:=by rw[<-Wg (xs:=c.argTypes),ht]
    have O:c.args=#[x,y]:=by rw[<-Wg (xs:=c.args),g]
    split at h
    .rename_i e e' n hu';split at h
     .rename_i i z C S;split at h
      .rename_i Q;simp only[Wc,Wa,Wd]at h;obtain⟨q,F,Y,hy',rfl⟩:=h;exact J (Xi #[t,u] o.type #[a.eval x,a.eval y]) false (λw=>by simp[resolve,hb,N,O,invoke,builtin]) _ (zDd (P:=P) rel n hu' C S Q.2.1 Q.2.2 (zt m F) (zt m hy') B).done
      .cases h
     .cases h
    .cases h
   .rename_i t x ht g;have N:c.argTypes=#[t]:=by rw[<-Wg (xs:=c.argTypes),ht]
    have O:c.args=#[x]:=by rw[<-Wg (xs:=c.args),g]
    split at h
    .rename_i e n;split at h
     .rename_i i z C S;split at h
      .rename_i A;obtain⟨q,F,h⟩:=Wa.1 h;cases h;exact J (XX #[t] o.type #[a.eval x]) false (λw=>by simp[resolve,hb,N,O,invoke,builtin]) _ (zE8 (P:=P) rel n C S A (zt m F) B).done
      .cases h
     .cases h
    .cases h
   .cases h
  .split at h
   .split at h
    .obtain⟨q,F,rfl⟩:=We.1 h;cases D
    .cases h
   .cases h
  .obtain⟨q,F,rfl⟩:=We.1 h;cases D
  .cases h
 |_=>rw[j]at h;cases h
theorem zGc{xv}{x}(rel:RelH w L ι H nx)(d:VR w (Lt L ι H) ι xv x)(c:(zok x H nx).side):(∃b,xv=.pointer (some b))/\(zok x H nx).v=x/\(zok x H nx).H=H/\(zok x H nx).nx=nx/\(zok x H nx).fact:=by
 cases d with
 |ptr=>exact⟨⟨_,rfl⟩,rfl,rfl,rfl,trivial⟩
 |iptr=>exact⟨⟨_,rfl⟩,rfl,rfl,rfl,trivial⟩
 |_=>simp[zok,bad]at c
theorem zKz{o}{x}{xs}(h:cxop P o=some (x,xs)){a:Act}{K}(rel:RelH w L ι H nx)(j:KOk w (Lt L ι H) ι a.tmps K)(g:(xopR x (evs K xs) H nx).side):
  zn1 w L ι H nx ((execOp a.eval o).run P w) (xopR x (evs K xs) H nx) x.pure:=by
 unfold cxop at h;unfold execOp
 cases p:o.op with
 |nilCheck y=>rw[p]at h;simp only[Wc,Wa,Wd,Wj]at h;obtain⟨u,n,rfl,rfl⟩:=h;simp only[evs,xopR]at g⊢;have Y:=zt j n;obtain⟨⟨ad,had⟩,Z,S,W,h4⟩:=zGc rel Y g;refine⟨_,a.eval y,w,ι,?_,.inl rfl,by rw[S,W];exact .refl rel,by rw[Z,S];exact Y,h4,λ_=>⟨rfl,rfl,S,W⟩⟩;rw[had];rfl
 |convert s d y=>
  rw[p]at h;simp only at h;split at h
  .rename_i e e' D N;split at h
   .rename_i hc;obtain⟨rfl,J⟩:=hc;simp only[Wc,Wa,Wd,Wj]at h;obtain⟨u,n,rfl,rfl⟩:=h;simp only[evs,xopR]at g⊢;exact(zGS rel D J (zt j n) g).done
   .cases h
  .rename_i e D N;split at h
   .rename_i J;simp only[Wc,Wa,Wd,Wj]at h;obtain⟨u,n,rfl,rfl⟩:=h;simp only[evs,xopR]at g⊢;exact(zJH rel D N J (zt j n) g).done rel
   .cases h
  .rename_i e D N;split at h
   .rename_i J;simp only[Wc,Wa,Wd,Wj]at h;obtain⟨u,n,rfl,rfl⟩:=h;simp only[evs,xopR]at g⊢;exact(zLd rel D N J (zt j n) g).done
   .cases h
  .cases h
 |binOp op t y z yt=>
  rw[p]at h;simp only at h;split at h
  .split at h
   .simp only[Wc,Wa,Wd,Wj]at h;obtain⟨u,n,O,q,rfl,rfl⟩:=h;simp only[evs,xopR]at g⊢;exact(zFP (P:=P) (neg:=false) (zt j n) (zt j q) g).done rel
   .simp only[Wc,Wa,Wd,Wj]at h;obtain⟨u,n,O,q,rfl,rfl⟩:=h;simp only[evs,xopR]at g⊢;exact(zFP (P:=P) (neg:=true) (zt j n) (zt j q) g).done rel
   .cases h
  .rename_i fs A;split at h
   .rename_i ss hf;split at h
    .rename_i X;split at h
     .simp only[Wc,Wa,Wd,Wj]at h;obtain⟨u,n,O,q,rfl,rfl⟩:=h;simp only[evs,xopR]at g⊢;exact(zFm (P:=P) (neg:=false) A hf X.1 X.2 (zt j n) (zt j q) g).done rel
     .simp only[Wc,Wa,Wd,Wj]at h;obtain⟨u,n,O,q,rfl,rfl⟩:=h;simp only[evs,xopR]at g⊢;exact(zFm (P:=P) (neg:=true) A hf X.1 X.2 (zt j n) (zt j q) g).done rel
     .cases h
    .cases h
   .cases h
  .cases h
 |index t y z=>
  rw[p]at h;simp only at h;split at h
  .rename_i A;simp only[Wc,Wa,Wd,Wj]at h;obtain⟨u,n,O,q,rfl,rfl⟩:=h;simp only[evs,xopR]at g⊢;exact(zHE (P:=P) A (zt j n) (zt j q) g).done rel
  .cases h
 |slice t y lo hi mx=>
  rw[p]at h;simp only at h;split at h
  .rename_i hi mx;split at h
   .rename_i e A;split at h
    .rename_i i T;split at h
     .simp only[Wc,Wa,Wd,Wj]at h;obtain⟨u,n,O,q,z2,hz2,rfl,rfl⟩:=h;simp only[evs,xopR]at g⊢;exact(zK4 (P:=P) rel A T (zt j n) (zt j q) (zt j hz2) g).done rel
     .cases h
    .cases h
   .cases h
  .cases h
 |makeMap t r=>
  rw[p]at h;simp only at h;split at h
  .cases h;simp only[evs,xopR]at g⊢;exact(zD3 (P:=P) rel).done
  .cases h
 |lookup t y k ok=>
  rw[p]at h;simp only at h;split at h
  .rename_i kt et A;split at h
   .rename_i str z R q;simp only[Wc,Wa,Wd,Wj]at h;obtain⟨u,n,k',Q,rfl,rfl⟩:=h;simp only[evs,xopR]at g⊢;exact(zEM (P:=P) rel A R q (zt j n) (zt j Q) g).done rel
   .cases h
  .cases h
 |mapUpdate t m k v=>
  rw[p]at h;simp only at h;split at h
  .rename_i kt et A;split at h
   .rename_i str R;simp only[Wc,Wa,Wd,Wj]at h;obtain⟨m',hm,k',Q,v',Y,rfl,rfl⟩:=h;simp only[evs,xopR]at g⊢;obtain⟨w',ι',Z,S,W,h4⟩:=zBX (P:=P) rel A R (zt j hm) (zt j Q) (zt j Y) g;exact⟨_,undef,w',ι',zKL Z,.inr ⟨rfl,rfl⟩,S,by rw[h4];exact .undef _ _,W,λh=>by cases h⟩
   .cases h
  .cases h
 |call c=>
  rw[p]at h;simp only at h;split at h
  .rename_i b J;split at h
   .rename_i F I y z U V;have B:c.argTypes=#[F,I]:=by rw[<-Wg (xs:=c.argTypes),U]
    have C:c.args=#[y,z]:=by rw[<-Wg (xs:=c.args),V]
    simp only[Wc,Wa,Wd,Wj]at h;obtain⟨u,n,O,q,rfl,rfl⟩:=h;simp only[evs,xopR]at g⊢;have hd:=(zEg (P:=P) (mx:=false) (ts:=#[F,I]) (ty:=o.type) (zt j n) (zt j q) g).done (pure:=true) rel;have e:(do let d <-resolve a.eval c o.type;invoke d.target d.args:Sem Next).run P w=(do Xf (Xe (<-XF #[F,I] o.type #[a.eval y,a.eval z])):Sem Next).run P w:=by simp[resolve,J,B,C,invoke,builtin]
    rw[e];exact hd
   .rename_i F I y z U V;have B:c.argTypes=#[F,I]:=by rw[<-Wg (xs:=c.argTypes),U]
    have C:c.args=#[y,z]:=by rw[<-Wg (xs:=c.args),V]
    simp only[Wc,Wa,Wd,Wj]at h;obtain⟨u,n,O,q,rfl,rfl⟩:=h;simp only[evs,xopR]at g⊢;have hd:=(zEg (P:=P) (mx:=true) (ts:=#[F,I]) (ty:=o.type) (zt j n) (zt j q) g).done (pure:=true) rel;have e:(do let d <-resolve a.eval c o.type;invoke d.target d.args:Sem Next).run P w=(do Xf (Xe (<-XE #[F,I] o.type #[a.eval y,a.eval z])):Sem Next).run P w:=by simp[resolve,J,B,C,invoke,builtin]
    rw[e];exact hd
   .rename_i F I y z U V;have B:c.argTypes=#[F,I]:=by rw[<-Wg (xs:=c.argTypes),U]
    have C:c.args=#[y,z]:=by rw[<-Wg (xs:=c.args),V]
    split at h
    .rename_i e A hu2;split at h
     .rename_i hby;simp only[Wc,Wa,Wd,Wj]at h;obtain⟨u,n,O,q,rfl,rfl⟩:=h;simp only[evs,xopR]at g⊢;have hd:=(zG5 (P:=P) (ty:=o.type) rel A hu2 hby (zt j n) (zt j q) g).done;have e:(do let d <-resolve a.eval c o.type;invoke d.target d.args:Sem Next).run P w=(do Xf (Xe (<-Xi #[F,I] o.type #[a.eval y,a.eval z])):Sem Next).run P w:=by simp[resolve,J,B,C,invoke,builtin]
      rw[e];exact hd
     .cases h
    .cases h
   .cases h
  .cases h
 |_=>rw[p]at h;cases h
theorem zkl{a:Act}{K}(g:KOk w M ι a.tmps K){n}:∀ {e:List (Nat×Operand)}{d:List (Nat×Nat×AOpd)},(e.mapM λp=>do some (p.1*n,n,(<-copd p.2)))=some d ->
  PL w M ι (λj=>some (j*n,n)) (e.map λp=>(p.1,a.eval p.2)) (zeD K d)
 |[],d,h=>by simp at h;subst h;exact .nil
 |
  p::e,d,h=>by
  simp only[WH,Wc,WW,Wa,Wd]at h;obtain⟨b,⟨c,k,rfl⟩,bs,hbs,rfl⟩:=h;exact .cons rfl (zt g k) (zkl g hbs)
theorem zG8{o}{ao}(h:zDq P o=some ao)(I:ao.isCall=false){a:Act}{K}(rel:RelH w L ι H nx)(j:KOk w (Lt L ι H) ι a.tmps K)(C:(aop ao K H nx).side):
  zn1 w L ι H nx ((execOp a.eval o).run P w) (aop ao K H nx) ao.pure:=by
 unfold zDq at h;unfold execOp
 cases g:o.op with
 |range t x=>
  rw[g]at h;simp only at h;split at h
  .rename_i kt T n;obtain⟨F,q,rfl⟩:=We.1 h;exact(zC2 (P:=P) rel n (zt j q) C).done
  .cases h
 |next x s=>
  rw[g]at h;simp only at h;split at h
  .obtain⟨F,q,rfl⟩:=We.1 h;cases I
  .cases h
 |entry x=>rw[g]at h;simp only at h;obtain⟨F,q,rfl⟩:=We.1 h;exact(zIH (P:=P) rel (zt j q) C).done rel
 |insert t m k v=>
  rw[g]at h;simp only at h;split at h
  .rename_i kt T n;split at h
   .rename_i str O;simp only[Wc,Wa,Wd]at h;obtain⟨m',hm,k',D,v',hv,rfl⟩:=h;obtain⟨w',ι',h1,h2,h3,h4⟩:=zBX (P:=P) rel n O (zt j hm) (zt j D) (zt j hv) C;exact⟨_,undef,w',ι',zKL h1,.inr ⟨rfl,rfl⟩,h2,by rw[show(aop (.xop (.mset str) [m',k',v']) K H nx).v=.undef from h4];exact .undef _ _,h3,λh=>by cases h⟩
   .cases h
  .cases h
 |index t x i=>
  rw[g]at h;simp only at h;split at h
  .rename_i len e n;split at h
   .rename_i inf d J hd;split at h
    .rename_i V;simp only[Wc,Wa,Wd]at h;obtain⟨F,q,i',N,rfl⟩:=h;exact(zHz (P:=P) n J hd V (zt j q) (zt j N) C).done (pure:=true) rel
    .cases h
   .cases h
  .cases h
 |indexAddr t x i=>
  rw[g]at h;simp only at h;split at h
  .rename_i len e n;split at h
   .rename_i inf J;split at h
    .rename_i W;simp only[Wc,Wa,Wd]at h;obtain⟨F,q,i',N,rfl⟩:=h;exact(zFL (P:=P) n J W (zt j q) (zt j N) C).done (pure:=true) rel
    .cases h
   .cases h
  .cases h
 |build t parts=>
  rw[g]at h;simp only at h;split at h
  .rename_i len e z n hz;split at h
   .rename_i i J;simp only[Wc,Wa,Wd]at h;obtain⟨ps,Z,rfl⟩:=h;have U:(parts.map λ(p:Nat×Operand)=>(p.1,a.eval p.2)).toList=parts.toList.map λp=>(p.1,a.eval p.2):=by simp
    have:=zCJ (P:=P) (w:=w) (parts:=parts.map λ(p:Nat×Operand)=>(p.1,a.eval p.2)) n J hz (by rw[U];exact zkl j (by simpa using Z)) C;exact this.done rel
   .cases h
  .cases h
 |binOp op t x y ty=>
  rw[g]at h;simp only at h;split at h
  .rename_i len e n;split at h
   .rename_i ss X;split at h
    .rename_i hg;split at h
     .simp only[Wc,Wa,Wd]at h;obtain⟨F,q,y',S,rfl⟩:=h;exact(zFT (P:=P) (neg:=false) n X hg (zt j q) (zt j S) C).done (pure:=true) rel
     .simp only[Wc,Wa,Wd]at h;obtain⟨F,q,y',S,rfl⟩:=h;exact(zFT (P:=P) (neg:=true) n X hg (zt j q) (zt j S) C).done (pure:=true) rel
     .cases h
    .cases h
   .cases h
  .cases h
 |call c=>
  rw[g]at h;simp only at h;split at h
  .rename_i b Y;split at h
   .rename_i t x Q q;have A:c.argTypes=#[t]:=by rw[<-Wg (xs:=c.argTypes),Q]
    have B:c.args=#[x]:=by rw[<-Wg (xs:=c.args),q]
    split at h
    .rename_i kt T n;obtain⟨y',S,rfl⟩:=We.1 h;have hd:=(zHP (P:=P) (ty:=o.type) rel n (zt j S) C).done (pure:=true) rel;have e:(do let d <-resolve a.eval c o.type;invoke d.target d.args:Sem Next).run P w=(do Xf (Xe (<-Xn #[t] o.type #[a.eval x])):Sem Next).run P w:=by simp[resolve,Y,A,B,invoke,Xa,builtin]
     rw[e];exact hd
    .cases h
   .rename_i t x Q q;have A:c.argTypes=#[t]:=by rw[<-Wg (xs:=c.argTypes),Q]
    have B:c.args=#[x]:=by rw[<-Wg (xs:=c.args),q]
    split at h
    .rename_i T n;obtain⟨y',S,rfl⟩:=We.1 h;have hd:=(zIx (P:=P) (ty:=o.type) n (zt j S) C).done (pure:=true) rel;have e:(do let d <-resolve a.eval c o.type;invoke d.target d.args:Sem Next).run P w=(do Xf (Xe (<-XM #[t] o.type #[a.eval x])):Sem Next).run P w:=by simp[resolve,Y,A,B,invoke,Xa,builtin]
     rw[e];exact hd
    .cases h
   .rename_i t u x k Q q;have A:c.argTypes=#[t,u]:=by rw[<-Wg (xs:=c.argTypes),Q]
    have B:c.args=#[x,k]:=by rw[<-Wg (xs:=c.args),q]
    split at h
    .rename_i T kq n hq;split at h
     .rename_i i z J hz;simp only[Wc,Wa,Wd]at h;obtain⟨F,R,k',D,rfl⟩:=h;have hd:=(zJ0 (P:=P) (ty:=o.type) rel n hq J hz (zt j R) (zt j D) C).done;have e:(do let d <-resolve a.eval c o.type;invoke d.target d.args:Sem Next).run P w=(do Xf (Xe (<-Xi #[t,u] o.type #[a.eval x,a.eval k])):Sem Next).run P w:=by simp[resolve,Y,A,B,invoke,Xa,builtin]
      rw[e];exact hd
     .cases h
    .cases h
   .rename_i t t2 x k Q q;have A:c.argTypes=#[t,t2]:=by rw[<-Wg (xs:=c.argTypes),Q]
    have B:c.args=#[x,k]:=by rw[<-Wg (xs:=c.args),q]
    split at h
    .rename_i kt T n;split at h
     .rename_i str O;simp only[Wc,Wa,Wd]at h;obtain⟨F,R,k',D,rfl⟩:=h;have hd:=(zIs (P:=P) (ts:=#[t,t2]) (ty:=o.type) rel rfl n O (zt j R) (zt j D) C).done;have e:(do let d <-resolve a.eval c o.type;invoke d.target d.args:Sem Next).run P w=(do Xf (Xe (<-Xs #[t,t2] o.type #[a.eval x,a.eval k])):Sem Next).run P w:=by simp[resolve,Y,A,B,invoke,Xa,builtin]
      rw[e];exact hd
     .cases h
    .cases h
   .cases h
  .cases h
 |_=>rw[g]at h;cases h
theorem zKF{o}{ao}(h:cyop P o=some ao)(b:ao.isCall=false){a:Act}{K}(rel:RelH w L ι H nx)(e:KOk w (Lt L ι H) ι a.tmps K)(c:(aop ao K H nx).side):
  zn1 w L ι H nx ((execOp a.eval o).run P w) (aop ao K H nx) ao.pure:=by
 unfold cyop at h;split at h
 .rename_i a0 d;cases h;exact zG8 d b rel e c
 .cases h;exact False.elim c
theorem cop_ok{o:Oper}{c:AOp}(h:cop P o=some c)(b:c.isCall=false){a:Act}{K:Nat->AV}(rel:RelH w L ι H nx)(d:KOk w (Lt L ι H) ι a.tmps K)(e:(aop c K H nx).side):
  zn1 w L ι H nx ((execOp a.eval o).run P w) (aop c K H nx) c.pure:=by
 unfold cop at h;split at h
 .rename_i a0 g;cases h;exact zJ2 g b rel d e
 .split at h
  .rename_i p j;cases h;exact zKz j rel d e
  .exact zKF h b rel d e
end
def Stab(J:(Nat->Prop)->(Nat->Prop)->World->Prop):Prop:=∀(L O d:Nat->Prop)(w c:World),J L O w->(∀b,b<w.heap.size->¬O b->c.heap[b]?=w.heap[b]?)->(∀b,d b->O b\/w.heap.size<=b)->(∀b,d b->b<c.heap.size) ->
 w.heap.size<=c.heap.size->c.os=w.os->c.tape=w.tape->c.output=w.output->J L d c
def zuH(L:Nat->Prop)(w c:World):Nat->Prop:=λb=>L b\/(w.heap.size<=b/\b<c.heap.size)
inductive AV.From(N:Nat):AV->Prop where
 |undef:AV.From N .undef
 |int (k n):AV.From N (.int k n)
 |bool (b):AV.From N (.bool b)
 |str (s):AV.From N (.str s)
 |nilp:AV.From N .nilp
 |ptr (r q g i f) (h:N<=r):AV.From N (.ptr r q g i f)
 |iptr (n c):AV.From N (.iptr n c)
 |sl (sz n f):AV.From N (.sl sz n f)
 |nilsl:AV.From N .nilsl
 |cut:AV.From N .cut
 |own (r q g off n) (h:N<=r):AV.From N (.own r q g off n)
 |fn (f caps) (h:∀a∈caps,AV.From N a):AV.From N (.fn f caps)
 |nilfn:AV.From N .nilfn
 |agg (asv) (h:∀a∈asv,AV.From N a):AV.From N (.agg asv)
 |tup (asv) (h:∀a∈asv,AV.From N a):AV.From N (.tup asv)
 |mp (r q) (h:N<=r):AV.From N (.mp r q)
 |nilmp:AV.From N .nilmp
 |it (r) (h:N<=r):AV.From N (.it r)
def Inj.above(ι:Inj)(N:Nat):Inj:=λr q g=>if r<N then none else ι r q g
theorem VR.above{w}{L}{N}{ι}{v}{a}(h:VR w L ι v a):AV.From N a->VR w L (ι.above N) v a:=by
 induction h with
 |undef ι v=>intro _;exact .undef _ _
 |int ι k n h=>intro _;exact .int _ _ _ h
 |bool ι b=>intro _;exact .bool _ _
 |str ι s h=>intro _;exact .str _ _ h
 |nilp ι=>intro _;exact .nilp _
 |ptr ι r q g i f l h o=>intro d;cases d with|ptr _ _ _ _ _ e=>exact .ptr _ _ _ _ _ _ _ (by simp[Inj.above,WI.2 e,h]) o
 |mp ι r q l h o=>intro d;cases d with|mp _ _ e=>exact .mp _ _ _ _ (by simp[Inj.above,WI.2 e,h]) o
 |nilmp ι=>intro _;exact .nilmp _
 |it ι r l h o=>intro d;cases d with|it _ e=>exact .it _ _ _ (by simp[Inj.above,WI.2 e,h]) o
 |iptr ι a n c V u z t p=>intro _;exact .iptr _ a n c V u z t
 |sl ι a D n cap f V A d u z t p=>intro _;exact .sl _ a D n cap f V A d u z t
 |sl0 ι D f=>intro _;exact .sl0 _ _ _
 |nilsl ι=>intro _;exact .nilsl _
 |cut ι a=>intro _;exact .cut _ _
 |own ι r q g off n a c l h o A u F=>intro d;cases d with|own _ _ _ _ _ e=>exact .own _ _ _ _ _ _ _ _ l (by simp[Inj.above,WI.2 e,h]) o A u F
 |fn ι f C B x t p=>intro d;cases d with|fn _ _ e=>exact .fn _ _ _ _ x (λi v a m j=>p i v a m j (e a (WX j)))
 |nilfn ι=>intro _;exact .nilfn _
 |agg ι C y x m t p=>intro d;cases d with|agg _ e=>exact .agg _ _ _ x m (λi v a m j=>p i v a m j (e a (WX j)))
 |tup ι C y x t p=>intro d;cases d with|tup _ e=>exact .tup _ _ _ x (λi v a m j=>p i v a m j (e a (WX j)))
structure LowH(n:Nat)(H:AH):Prop where
 num:∀r o,H.look r=some o->r<n
 val:∀r q sz els g,H.get r q=some (.row sz els g)->∀c∈els,∀v∈c,AV.Below n v
structure HighH(n:Nat)(H:AH):Prop where
 num:∀r o,H.look r=some o->n<=r
 val:∀r q sz els g,H.get r q=some (.row sz els g)->∀c∈els,∀v∈c,AV.From n v
def AH.upto(H:AH)(n:Nat):AH:=H.filter λp=>Nat.blt p.1 n
theorem AH.look_upto(n r):∀H:AH,(AH.upto H n).look r=if r<n then Xd H r else none
 |[]=>by simp[AH.upto,Xd]
 |
  (j,o)::t=>by
  have e:=AH.look_upto n r t;unfold AH.upto at e⊢;rw[List.filter_cons];by_cases d:j<n
  .have c:Nat.blt j n=true:=by simpa using d
   rw[if_pos c];simp only[Xd,e];by_cases g:j=r
   .subst g;simp[d]
   .simp only[zbc g,cond_false]
  .have c:¬Nat.blt j n=true:=by simpa using d
   rw[if_neg c];simp only[e,Xd];by_cases b:r<n
   .rw[if_pos b,if_pos b,zbc (by omega)];rfl
   .rw[if_neg b,if_neg b]
theorem AH.get_upto(H)(n r q):(AH.upto H n).get r q=if r<n then H.get r q else none:=by unfold Xt;rw[AH.look_upto];split<;>rfl
theorem AH.look_app2(r:Nat):∀(H T:AH),Xd (H++T) r=match Xd H r with|some o=>some o|none=>Xd T r
 |[],T=>rfl
 |
  (j,o)::t,T=>by
  show Xd ((j,o)::(t++T)) r=_;simp only[Xd]
  cases h:Nat.beq j r with
  |true=>rfl
  |false=>simpa using AH.look_app2 r t T
theorem AH.look_low{n}{H T}(d:∀r o,H.look r=some o->r<n)(e:∀r o,T.look r=some o->n<=r)(r):Xd (H++T) r=if r<n then Xd H r else Xd T r:=by
 rw[AH.look_app2]
 cases h:Xd H r with
 |some o=>rw[if_pos (d r o h)]
 |none=>
  by_cases b:r<n
  .rw[if_pos b]
   cases c:Xd T r with
   |none=>rfl
   |some o=>have:=e r o c;omega
  .rw[if_neg b]
theorem AH.get_low{n}{H T}(b:∀r o,H.look r=some o->r<n)(c:∀r o,T.look r=some o->n<=r)(r q):Xt (H++T) r q=if r<n then Xt H r q else Xt T r q:=by unfold Xt;rw[AH.look_low b c];split<;>rfl
section
variable {σ:Type}
def YOk(P:Program)(l:Nat)(next:σ->Option (List AV×σ))(J:σ->(Nat->Prop)->(Nat->Prop)->World->Prop)(h:(Nat->Prop)->(Nat->Prop)->World->Prop):Prop :=
 ∀(s:σ)(x:List AV)(d:σ)(L O:Nat->Prop)(w:World)(g:Array Value),next s=some (x,d)->J s L O w->(∀b,L b->b<w.heap.size)->(∀b,O b->b<w.heap.size/\¬L b)->VRs w (λb=>L b\/O b) noI g.toList x ->
  YieldAt Fence.wide 0 P l g w λe c=>Ext L w c/\((e=.returned (.bool true)/\J d (zuH L w c) O c)\/(e=.returned (.bool false)/\h (zuH L w c) O c))
structure StY(w0:World)(L0:Nat->Prop)(ι0:Inj)(H0:AH)(w:World)(L:Nat->Prop)(ι:Inj)(H:AH)(nx:Nat):Prop where
 os:w.os=w0.os
 tape:w.tape=w0.tape
 output:w.output=w0.output
 size:w0.heap.size<=w.heap.size
 block:∀b,b<w0.heap.size->¬live ι0 H0 b->¬L0 b->w.heap[b]?=w0.heap[b]?
 inj:∀r q g l,ι0 r q g=some l->ι r q g=some l
 rel:RelH w L ι H nx
 lv:∀b,live ι H b->live ι0 H0 b\/w0.heap.size<=b
 lg:∀b,L b->L0 b\/w0.heap.size<=b
 ll:∀b,L0 b->L b
def ItOk(P:Program)(f:FuncId)(g:List AV)(H:AH)(nx:Nat)(next:σ->Option (List AV×σ))(ok:σ->Prop)(n:σ)(Q:Option σ->AH->Nat->Prop):Prop :=
 ∀(w:World) (L:Nat->Prop) (ι:Inj) (m:Array Value) (l:Nat) (J:σ->(Nat->Prop)->(Nat->Prop)->World->Prop) (h:(Nat->Prop)->(Nat->Prop)->World->Prop),
  (∀s,Stab (J s))->Stab h->YOk P l next J h->(∀s L O w,J s L O w->ok s)->RelH w L ι H nx->VRs w (Lt L ι H) ι m.toList g->J n L (live ι H) w ->
  Calls P f (#[.func (.yield l) #[] #[]]++m) w λe k=>∃v j c d b,e=.returned v/\StY w L ι H k j c d b/\nx<=b /\
   ((∃s,J s j (live c d) k/\Q (some s) d b)\/(h j (live c d) k/\Q none d b))
end
def zo6(c bytes:Nat)(x y:AV)(H:AH)(nx:Nat)(k:AV->AH->Nat->Prop):Prop :=
 match zcq c y H,lenV y,x with
 |
  some news,some m,.own r q g off n=>match H.get r q with
  |some (.row d b e)=>(d=c/\g=e/\off+n<=b.length/\fits H y/\(n+m)*bytes<=140737488355328/\0<m) /\
    k (.own r q g off (n+m)) (H.set r q (.row c (b.take (off+n)++news++b.drop (off+n+m)) g)) nx /\
    k (.own nx 0 0 0 (n+m)) (H.set nx 0 (.row c ((b.drop off).take n++news) 0)) (nx+1)
  |_=>False
 |_,_,_=>False
theorem zo6.mono{sz bytes}{x y}{H}{nx}{k k'}(b:∀v H nx,k v H nx->k' v H nx)(h:zo6 sz bytes x y H nx k):zo6 sz bytes x y H nx k':=by
 unfold zo6 at *;split at h
 .split at h
  .exact⟨h.1,b _ _ _ h.2.1,b _ _ _ h.2.2⟩
  .exact h
 .exact h
section
variable {P:Program}{w:World}{L:Nat->Prop}{ι:Inj}{H:AH}{nx:Nat}
theorem zLk{t tx ty e e':TypeId}{i:TypeInfo}{z:List AV}{xv yv:Value}{x y:AV}{k:AV->AH->Nat->Prop}(rel:RelH w L ι H nx)(ht:P.underlying t=some (.slice e))(htx:P.underlying tx=some (.slice e'))(hi:P.info? e=some i)(hz:zhC P e=some z)(hpos:0<i.size)(hby:0<i.bytes)(hx:VR w (Lt L ι H) ι xv x)(hy:VR w (Lt L ι H) ι yv y)(h:zo6 i.size i.bytes x y H nx k) :
  ∃v w' ι' av H' nx',(Xi #[t,tx] ty #[xv,yv]).run P w=.ok v w'/\Step w L ι H nx w' ι' H' nx'/\nx<=nx'/\VR w' (Lt L ι' H') ι' v av/\k av H' nx':=by
 obtain⟨i',zv,hi',hzv,hzs,_,_⟩:=zgN hz;rw[hi]at hi';cases hi';unfold zo6 at h;split at h;case h_2=>exact h.elim
 rename_i Q m r q g off n he hm;split at h;case h_2=>exact h.elim
 rename_i sz' B g' hg;obtain⟨⟨rfl,rfl,hle,hf,V,hmp⟩,hk1,hk2⟩:=h
 cases hx with
 |own _ _ _ _ _ _ a c l hl D hn hc ha=>
 obtain⟨d,hs,A,W⟩:=zBt rel htx hpos hy he hm hf;obtain⟨l',hl',ok⟩:=rel.row _ _ _ _ _ hg;rw[hl]at hl';cases hl';have C:((B.drop off).take n).length=n:=by simp;omega
 obtain⟨s,N,hcl⟩:=LR.ofCells (w:=w) (M:=Lt L ι H) (ι:=ι) (b:=l.block) (o:=l.off+off*l.sz) C (sz:=i.size) (λi c h=>ok.wide _ _ (zcC h).2) (λp c j x hi J=>by
  obtain⟨h5,h6⟩:=zcC hi;obtain⟨v,h7,h8,h9⟩:=ok.holds D _ c j x h6 J;refine⟨v,?_,h8,h9⟩;rw[ok.hsz,show l.off+off*i.size+p*i.size+j=l.off+(off+p)*i.size+j by rw[Wh];omega]
  exact h7)
 have hnmb:n+m<=140737488355328:=by have:(n+m)*1<=(n+m)*i.bytes:=Nat.mul_le_mul_left _ hby;omega
 have hmax:n+m<=maxLen:=by unfold maxLen;omega
 by_cases Y:n+m<=c
 .have I:0<c:=by omega
  have had:=ha I;subst had;have hcap:0<l.cap*l.sz:=by rw[ok.hsz];exact WC (by omega) hpos
  have hnV:d.length=m*i.size:=by rw[A.size,W]
  have hcc:(off+n+m)*i.size<=l.cap*i.size:=Wu _ (by omega);rw[Wh,Wh]at hcc;have hth:∀j,j<d.length->(w.cell? ⟨l.block,l.off+off*l.sz+n*i.size+j,none⟩).isSome=true/\w.frozen? ⟨l.block,l.off+off*l.sz+n*i.size+j,none⟩=false:=λj J=>by have:=(ok.plain D).there (off*i.size+n*i.size+j) (by omega);rw[ok.hsz,show l.off+off*i.size+n*i.size+j=l.off+(off*i.size+n*i.size+j) by omega];exact this
  have S:=run_append_room_src (P:=P) w t tx ty e i ht hi l.block (l.off+off*l.sz) n c yv m d hs Y (λj J=>(hth j J).1) (λj J=>(hth j J).2);have hsame:∀l0,ι r q g=some l0->l0=l:=λl0 X=>by rw[hl]at X;cases X;rfl
  have c1:Chg w ι H r q g l (w.setCells l.block (l.off+off*l.sz+n*i.size) d):=.write rel hg hl hcap rfl hsame (Wf _);have F:=zid w l.block (l.off+off*l.sz+n*i.size) d (λj J=>(hth j J).1);have ht1:(B.take (off+n)).length=off+n:=by simp;omega
  have Z:∀(p:Nat)(T:List AV),(B.take (off+n)++Q++B.drop (off+n+m))[p]?=some T->(off+n<=p/\p<off+n+m/\Q[p-(off+n)]?=some T)\/(¬(off+n<=p/\p<off+n+m)/\B[p]?=some T):=by
   intro p T O;by_cases U:p<off+n
   .right;rw[Wag,Ww (by omega),Wac,if_pos U]at O;exact⟨by omega,O⟩
   .by_cases h2:p<off+n+m
    .left;rw[Wag,Wx (by omega),ht1,Ww (by omega)]at O;exact⟨by omega,h2,O⟩
    .right;rw[Wx (by simp;omega),Wad]at O;refine⟨by omega,?_⟩;rw[<-O];congr 1;simp;omega
  have K:(B.take (off+n)++Q++B.drop (off+n+m)).length<=l.cap:=by have:=(ok.plain D).len;simp only[WG,ht1,WV,W];omega
  refine⟨_,_,_,_,_,_,S,c1.step (.inl ⟨_,_,hg⟩) rel (rel.idx _ _ _ _ hl) (Wf _) (.mk' ok.hsz K D (λp O=>?_) (λO=>((ok.plain D).fz O).setCells) (λp T O=>?_) (λp T j a O J=>?_)),Wf _,?_,hk1⟩
  .have X:=(ok.plain D).there p O;rw[World.frozen?_setCells,F];refine⟨?_,X.2⟩;split
   .rw[Wm (by omega)];rfl
   .exact X.1
  .rcases Z p T O with ⟨_,_,U⟩|⟨_,U⟩
   .exact A.wide _ _ U
   .exact ok.wide _ _ U
  .rcases Z p T O with ⟨U,h2,h3⟩|⟨U,h3⟩
   .obtain⟨v,h4,h6,h7⟩:=A.rel _ _ _ _ h3 J;have hjs:j<i.size:=by rw[<-A.wide _ _ h3];exact(Wp.1 J).1
    have hlt:=(Wp.1 h4).1;have e1:(p-(off+n))*i.size+(off*i.size+n*i.size)=p*i.size:=by rw[<-Wh,<-Wh];congr 1;omega
    refine⟨v,?_,h6,c1.vr (.inl ⟨_,_,hg⟩) rel h7⟩;rw[F,ok.hsz,if_pos (by omega)];rw[show l.off+p*i.size+j-(l.off+off*i.size+n*i.size)=(p-(off+n))*i.size+j by omega];exact h4
   .obtain⟨v,h4,h6,h7⟩:=ok.holds D _ _ _ _ h3 J;have hjs:j<i.size:=by rw[<-ok.wide _ _ h3];exact(Wp.1 J).1
    refine⟨v,?_,h6,c1.vr (.inl ⟨_,_,hg⟩) rel h7⟩;rw[F,ok.hsz,if_neg ?_]
    .exact h4
    .rintro⟨a1,a2⟩;have e2:(off+n)*i.size=off*i.size+n*i.size:=Wh _ _ _;rcases Nat.lt_or_ge p (off+n)with h8|h8
     .have:=Wu i.size (show p+1<=off+n from h8);rw[Wh]at this;omega
     .have h9:off+n+m<=p:=by omega
      have:=Wu i.size h9;rw[Wh,Wh]at this;omega
  .exact .own _ r q g off (n+m) _ c l (Xh _ _ _ _ _) D Y (by omega) (λ_=>rfl)
 .have hfc:(XG i.size n (.slice a n c)).run P w.drew=.ok s.toArray w.drew:=by
   rcases Wae c with hc0|I
   .have hn0:n=0:=by omega
    subst hn0;have:s=[]:=WD (by rw[N.size,C];simp);subst this
    cases a with
    |none=>exact run_firstCells_none w.drew i.size 0 0 c
    |some a=>exact run_firstCells_some w.drew i.size 0 a 0 c [] (by simp) (by intro _ _ h';simp at h')
   .have had:=ha I;subst had;exact run_firstCells_some w.drew i.size n ⟨l.block,l.off+off*l.sz,none⟩ n c s (by rw[N.size,C]) (λj u hu=>by rw[add_mid];exact hcl j u hu)
  have S:=run_append_grow_src (P:=P) w t tx ty e i zv ht hi hzv a n c s hfc yv m d hs (by omega) (by omega) (growslice_fits (by omega) V);have hge:=grownCap_ge w (n+m) c e;have hgm:=grownCap_le_maxLen w (n+m) c e hmax;have R:=N.append A;have K:((B.drop off).take n++Q).length=n+m:=by rw[WG,C,W]
  have hfr:∀l0,ι nx 0 0=some l0->l0=⟨w.heap.size,0,grownCap w (n+m) c e,i.size⟩:=λl0 X=>by rw[rel.freshI]at X;cases X
  have c1:Chg w ι H nx 0 0 ⟨w.heap.size,0,grownCap w (n+m) c e,i.size⟩ (w.drew.alloc (.cells ((s++d).toArray++Xb zv.cells (grownCap w (n+m) c e-(n+m))) e)) :=
   ⟨rfl,rfl,rfl,by simp,λb hb _=>Xq w.drew _ b hb,λ_=>.inr (Wf _),hfr,λg2 l2 h=>by rw[rel.freshI]at h;cases h⟩
  have hL:(s++d).length=(n+m)*i.size:=by rw[WG,N.size,A.size,C,W,Wh]
  have hsz:((s++d).toArray++Xb zv.cells (grownCap w (n+m) c e-(n+m))).size=grownCap w (n+m) c e*i.size:=by rw[Waf,Wah,hL,size_zeroCells,hzs,<-Wh];congr 1;omega
  refine⟨_,_,_,_,_,_,S,c1.step (rel.sok _) rel (Wn _) (Wo _) (.mk' rfl (by rw[K];exact hge) hgm (λk hk=>?_) (λ_=>FzOk.new) R.wide (λk T j a hk J=>?_)),Wo _,?_,hk2⟩
  .simp only[Wv];have e1:(w.drew.alloc (.cells ((s++d).toArray++Xb zv.cells (grownCap w (n+m) c e-(n+m))) e)).cell? ⟨w.heap.size,k,none⟩=_:=Xp w.drew _ _ k;have e2:(w.drew.alloc (.cells ((s++d).toArray++Xb zv.cells (grownCap w (n+m) c e-(n+m))) e)).frozen? ⟨w.heap.size,k,none⟩=_:=XS w.drew _ _ k;rw[e1,e2];refine⟨?_,rfl⟩;rw[Wl (by rw[hsz];exact hk)];rfl
  .obtain⟨v,U,h2,h3⟩:=R.rel k T j a hk J;refine⟨v,?_,h2,c1.vr (rel.sok _) rel h3⟩;simp only[Wv];have e1:(w.drew.alloc (.cells ((s++d).toArray++Xb zv.cells (grownCap w (n+m) c e-(n+m))) e)).cell? ⟨w.heap.size,k*i.size+j,none⟩=_:=Xp w.drew _ _ _;rw[e1,WM (by rw[Wah];exact(Wp.1 U).1),WA];exact U
  .exact .own _ nx 0 0 0 (n+m) _ _ _ (Xh _ _ _ _ _) hgm hge (by simp) (λ_=>by simp)
end
inductive AExit where
 |normal
 |exit (id:Nat)
 |ret
 |goto (l:Nat)
abbrev QT:=AExit->Kn->AH->Nat->Prop
def zS(P:Program)(f:FuncId)(args:List AV)(H:AH)(nx:Nat)(Q:AV->AH->Nat->Prop):Prop :=
 ∀(w:World)(L:Nat->Prop)(ι:Inj)(g:Array Value),RelH w L ι H nx->VRs w (Lt L ι H) ι g.toList args ->
  Calls P f g w (λe h=>∃v c d b a,e=.returned v/\Step w L ι H nx h c d b/\nx<=b/\VR h (Lt L c d) c v a/\Q a d b)
def zdx(P:Program)(f:FuncId)(args:List AV)(H:AH)(nx:Nat)(a:AV):Prop :=
 ∀(w:World)(L:Nat->Prop)(ι:Inj)(b:Array Value),RelH w L ι H nx->VRs w (Lt L ι H) ι b.toList args ->
  Calls P f b w (λe c=>∃v,e=.returned v/\Step w L ι H nx c ι H nx/\VR c (Lt L ι H) ι v a)
def CallQ(P:Program)(f:FuncId)(args:List AV)(H:AH)(nx:Nat)(Q:AV->Prop):Prop:=∃a,zdx P f args H nx a/\Q a
def zhj(t:Bool)(A B:Prop):Prop:=(t=true->A)/\(t=false->B)
theorem zhj.true(A B:Prop):zhj true A B=A:=by simp[zhj]
theorem zhj.false(A B:Prop):zhj false A B=B:=by simp[zhj]
def zfd(P:Program)(f:FuncId):Bool:=match P.funcs[f]? with
 |some fn=>fn.body.isSome && !(fn.name == "runtime.NumGoroutine")
 |none=>false
def setO(K:Kn):Option Nat->AV->Kn
 |none,_=>K
 |some d,v=>K.set d v
def znW(fx:Bool)(r:ORes)(k:AV->AH->Nat->Prop):Prop:=r.side/\((bif fx then r.fact else True)->k r.v r.H r.nx)
def bornOk(c:Int)(d:List (List AV)):Prop:=∀e∈d,∃b,e.getD 2 .undef=.int .i64 b/\b<c
def seenOk(seen:List (List AV)):Prop:=∀s∈seen,∃b,s=[.int .i64 b]
def zEz(v:AV)(seen:List (List AV)):Bool:=match v with
 |
  .int _ b=>seen.any λs=>match s with
  |[.int _ c]=>decide (c=b)
  |_=>false
 |_=>false
def zFw(seen b:List (List AV)):List (List AV):=b.filter λe=> !zEz (e.getD 2 .undef) seen
def zpQ(x:AV)(H:AH)(nx:Nat)(k:AV->AH->Nat->Prop):Prop :=
 match x with
 |
  .it r=>match H.get r 0 with
  |
   some (.row d ([.mp rm qm]::[.int .i64 since]::[.int .i64 st]::seen) g)=>match H.get rm qm with
   |
    some (.row sz2 ([.int .i64 c,_,_]::b) g2)=>(d=1/\g=0/\sz2=3/\g2=0/\since<=st/\bornOk since b/\seenOk seen) /\
    (zFw seen b=[]->k (.tup [.bool false]) H nx) /\
    ∀e∈zFw seen b,k (.tup [.bool true,e.getD 0 .undef,e.getD 1 .undef]) (H.set r 0 (.row 1 ([.mp rm qm]::[.int .i64 since]::[.int .i64 c]::(seen++[[e.getD 2 .undef]])) 0)) nx
   |_=>False
  |some (.row d ([.nilmp]::_::_) g)=>(d=1/\g=0)/\k (.tup [.bool false]) H nx
  |_=>False
 |_=>False
def zcK(P:Program)(fx:Bool)(op:AOp)(ρ:Nat->AV)(H:AH)(nx:Nat)(k:AV->AH->Nat->Prop):Prop :=
 match op with
 |.call f args=>zS P f (evs ρ args) H nx (λv e c=>(bif fx then v.wf else True)->k v e c)
 |.callq f args=>CallQ P f (evs ρ args) H nx (λv=>k v H nx)
 |
  .isnil neg p x=>match nilB p (ev ρ x)with
  |some (some b)=>k (.bool (b != neg)) H nx
  |some none=>∀b,k (.bool b) H nx
  |none=>False
 |.mnext x=>zpQ (ev ρ x) H nx k
 |.append2 g b x y=>zo6 g b (ev ρ x) (ev ρ y) H nx k
 |
  .callv x args=>match ev ρ x with
  |.fn (.func f) d=>zfd P f=true/\zS P f (evs ρ args++d) H nx (λv e c=>(bif fx then v.wf else True)->k v e c)
  |_=>False
 |op=>znW fx (aop op ρ H nx) k
def grd(c:Bool):AV->Option Bool
 |.bool b=>some (b == c)
 |.tup []=>some false
 |_=>none
def ExK(P:Program)(fx:Bool)(o:AOper)(K:Kn)(H:AH)(nx:Nat)(k:Kn->AH->Nat->Prop):Prop :=
 match o.guard with
 |none=>zcK P fx o.op K.get H nx (λv c b=>k (setO K o.dst v) c b)
 |
  some (t,want)=>match grd want (K.get t)with
  |some r=>zhj r (zcK P fx o.op K.get H nx (λv c b=>k (setO K o.dst v) c b)) (k (setO K o.dst (.tup [])) H nx)
  |none=>False
def aops(P:Program):List AOper->List Nat->QT->Kn->AH->Nat->Prop
 |[],drop,Q,K,H,nx=>Q .normal (K.drop drop) H nx
 |o::b,drop,Q,K,H,nx=>ExK P true o K H nx (aops P b drop Q)
def awpT(P:Program):DTree->List Nat->QT->Kn->AH->Nat->Prop
 |.done,drop,Q,K,H,nx=>Q .normal (K.drop drop) H nx
 |.stop,_,_,_,_,_=>True
 |.step o t,drop,Q,K,H,nx=>ExK P false o K H nx (awpT P t drop Q)
 |.alt o t r,drop,Q,K,H,nx=>ExK P false o K H nx (awpT P t drop Q)/\awpT P r drop Q K H nx
def WfK(K:Kn):Prop:=∀i,(K.get i).wf
def Ent(B:Nat)(K:Kn)(H:AH)(nx:Nat)(e:Kn)(d:AH)(nx2:Nat):Prop :=
 B<=nx2/\∀(w:World)(L:Nat->Prop)(ι:Inj)(tmps:Array Value),RelH w L ι H nx->KOk w (Lt L ι H) ι tmps K.get ->
  ∃c,RelH w L c d nx2/\KOk w (Lt L c d) c tmps e.get/\(∀b,live c d b->live ι H b)/\∀r q g l,r<B->ι r q g=some l->c r q g=some l
def zJo(B:Nat)(W:QT->Kn->AH->Nat->Prop)(Q:QT)(K:Kn)(H:AH)(nx:Nat):Prop :=
 ∃(α:Type) (S:α->Kn×AH) (N:Nat) (b:α->Prop) (μ:α->Nat),(∃a,b a/\Ent B K H nx (S a).1 (S a).2 N) /\
  ∀a,b a->WfK (S a).1->W (λe K H nx=>match e with
   |.normal=>∃c,b c/\μ c<μ a/\Ent B K H nx (S c).1 (S c).2 N
   |e=>Q e K H nx) (S a).1 (S a).2 N
def zJi(B:Nat)(W:Kn->AH->Nat->Prop)(K:Kn)(H:AH)(nx:Nat):Prop :=
 WfK K->∃c b nx2,Ent B K H nx c b nx2/\W c b nx2
def zJu(B:Nat)(d:QT->Kn->AH->Nat->Prop)(g:Kn->AH->Nat->Prop)(Q:QT)(K:Kn)(H:AH)(nx:Nat):Prop :=
 ∃(α:Type) (S:α->Kn×AH) (N:Nat) (b:α->Prop),
  d (λe K H nx=>match e with
   |.normal=>∃c,b c/\Ent B K H nx (S c).1 (S c).2 N
   |e=>Q e K H nx) K H nx /\
  ∀a,b a->WfK (S a).1->g (S a).1 (S a).2 N
def zJr(B l:Nat)(g h:QT->Kn->AH->Nat->Prop)(Q:QT)(K:Kn)(H:AH)(nx:Nat):Prop :=
 ∃(α:Type) (S:α->Kn×AH) (N:Nat) (c:α->Prop) (μ:α->Nat),
  g (λe K H nx=>match e with
   |.goto d=>d=l/\∃b,c b/\Ent B K H nx (S b).1 (S b).2 N
   |e=>Q e K H nx) K H nx /\
  ∀a,c a->WfK (S a).1->h (λe K H nx=>match e with
   |.goto d=>d=l/\∃b,c b/\μ b<μ a/\Ent B K H nx (S b).1 (S b).2 N
   |e=>Q e K H nx) (S a).1 (S a).2 N
def noGQ(Q:QT):QT:=λe K H nx=>match e with
 |.goto _=>False
 |e=>Q e K H nx
def zs9(K:Kn):List Nat->List AV->Kn
 |t::b,v::c=>zs9 (K.set t v) b c
 |_,_=>K
def zEZ(P:Program)(B:Nat)(t u:Nat->QT->Kn->AH->Nat->Prop)(p:List Nat)(Q:QT)(v:AV)(K:Kn)(H:AH)(nx:Nat):Prop :=
 ∃(σ:Type) (f:FuncId) (b:List AV) (next:σ->Option (List AV×σ)) (ok:σ->Prop) (q:σ) (α:Type) (h:Kn) (S:α->AH) (N:Nat) (d:α->σ->Prop) (j:α->AExit->Prop) (k:Nat) (o:AH) (R:Option σ->AH->Prop),
  v=.fn (.func f) b/\zfd P f=true/\(∀c∈b,AV.Below k c)/\ItOk P f b o k next ok q (λs g _=>(match s with|some s=>next s=none|none=>True)/\R s (AH.upto g k))/\(∀a s,d a s->ok s) /\
  (∀s x n,next s=some (x,n)->x.length=p.length) /\
  (k<=B/\LowH k o/\(∀s g,R s g->LowH k g)/\(∀a,HighH k (S a))/\(∀i,AV.From k (h.get i))) /\
  (∃a,d a q/\Ent B K H nx h (o++S a) N) /\
  (∀a s x n,d a s->next s=some (x,n)->WfK (zs9 h p x)->t N (λe K H nx=>match e with
   |
    .normal=>u N (λe K H nx=>match e with
    |.normal=>∃m,d m n/\Ent B h H nx h (S m) N
    |.goto _=>False
    |e=>∃m,j m e/\Ent B h H nx h (S m) N) K H nx
   |_=>False) (zs9 h p x) (S a) N) /\
  (∀a s g,d a s->next s=none->R (some s) g->Q .normal h (g++S a) N) /\
  (∀a e g,j a e->R none g->Q e h (g++S a) N)
def awp(P:Program)(B:Nat):ACode->QT->Kn->AH->Nat->Prop
 |.skip,Q,K,H,nx=>Q .normal K H nx
 |.region ops drop,Q,K,H,nx=>aops P ops drop Q K H nx
 |.draw t drop,Q,K,H,nx=>awpT P t drop Q K H nx
 |.seq a b,Q,K,H,nx=>awp P B a (λe K H nx=>match e with
   |.normal=>awp P B b Q K H nx
   |e=>Q e K H nx) K H nx
 |
  .cond c a b,Q,K,H,nx=>match ev K.get c with
  |.bool t=>zhj t (awp P B a Q K H nx) (awp P B b Q K H nx)
  |_=>False
 |.block id c,Q,K,H,nx=>awp P B c (λe K H nx=>match e with
   |.exit d=>bif Nat.beq d id then Q .normal K H nx else Q (.exit d) K H nx
   |e=>Q e K H nx) K H nx
 |.loop c,Q,K,H,nx=>zJo B (awp P B c) Q K H nx
 |.exit id,Q,K,H,nx=>Q (.exit id) K H nx
 |.ret,Q,K,H,nx=>Q .ret K H nx
 |.mark _ c,Q,K,H,nx=>zJi B (awp P B c Q) K H nx
 |.scope c,Q,K,H,nx=>awp P B c (noGQ Q) K H nx
 |.label _,Q,K,H,nx=>Q .normal K H nx
 |.goto l,Q,K,H,nx=>Q (.goto l) K H nx
 |.jump l a b,Q,K,H,nx=>zJr B l (awp P B a) (awp P B b) Q K H nx
 |.join a b,Q,K,H,nx=>zJu B (awp P B a) (awp P B b Q) Q K H nx
 |.range g h a b,Q,K,H,nx=>zEZ P B (λN=>awp P N a) (λN=>awp P N b) h Q (ev K.get g) K H nx
inductive ARet where
 |tmp (t:Nat)
 |cell (t:Nat) (agg:Bool) (n:Nat)
def cret(P:Program):ResultVar->Option ARet
 |.tmp t=>some (.tmp t)
 |
  .cell a t=>match P.underlying t,P.info? t with
  |some d,some i=>if zdf d then some (.cell a true i.size)else some (.cell a false 1)
  |_,_=>none
def zcb(K:Kn)(H:AH)(nx:Nat):List ARet->Prop
 |[]=>True
 |.tmp _::r=>zcb K H nx r
 |.cell t agg n::r=>(zd5 agg n (K.get t) H nx).side/\zcb K H nx r
def zaU(K:Kn)(H:AH)(nx:Nat):List ARet->List AV
 |[]=>[]
 |.tmp t::r=>K.get t::zaU K H nx r
 |.cell t agg n::r=>(zd5 agg n (K.get t) H nx).v::zaU K H nx r
def zkZ:List AV->AV
 |[v]=>v
 |l=>.tup l
def retK(c:List ARet)(b:AV->AH->Nat->Prop):QT
 |.exit _,_,_,_=>False
 |.goto _,_,_,_=>False
 |_,K,H,nx=>zcb K H nx c/\b (zkZ (zaU K H nx c)) H nx
def zmR:Nat->List AV->Kn
 |_,[]=>[]
 |i,a::r=>(i,a)::zmR (i+1) r
theorem zyc:∀(b:List AV)(i j:Nat),(zmR i b).get j=if i<=j then b.getD (j-i) .undef else .undef
 |[],i,j=>by simp[zmR,Kn.get]
 |
  a::b,i,j=>by
  simp only[zmR,Kn.get];by_cases h:i=j
  .subst h;simp
  .rw[zbc h,cond_false,zyc b (i+1) j];by_cases c:i+1<=j
   .rw[if_pos c,if_pos (by omega),show j-i=(j-(i+1))+1 by omega];rfl
   .rw[if_neg c,if_neg (by omega)]
end Go.Ab
