/-
  Part 2 of the proof: how the calls of this program run, over values instead of memory, and what each function computes.
-/
import Derived.MapKept
import Derived.Carry
import Derived.Laws.BytesString
import Derived.Laws.Strings
import Derived.Laws.StructEq
import Derived.Maps.RangeRun
import Derived.ChangeKeysEq
import Derived.Lib.AppendZeros
import Derived.RangeFuncCalls
import Derived.RangeFuncBound
import Derived.RangeFuncRecord
import Derived.Test.YtihlaappclhhaaaGreatKa
set_option maxRecDepth 100000
set_option linter.unusedVariables false
set_option linter.unusedSimpArgs false
set_option linter.unnecessarySimpa false
set_option linter.unusedSectionVars false
open Option renaming bind_eq_some_iff→Wa,bind_eq_bind→Wc,map_eq_some_iff→We,map_some→WE,getD_some→WP,pure_def→WW,isSome_iff_exists→W0,bind_some→W8
open Option.some renaming injEq→Wd
open Nat renaming le_refl→Wf,add_mul→Wh,zero_le→Wl,lt_succ_self→Wo,le_succ→Wp,mul_one→Wt,mul_le_mul_right→Wu,zero_add→Wv,sub_zero→Wz,mul_pos→WC,not_lt→WI,add_sub_cancel_left→WO,pos_of_ne_zero→W5,eq_zero_or_pos→Wae
open Array renaming toArray_toList→Wg,getElem?_toList→Wk,getElem?_eq_getElem→Wm,getElem?_eq_some_iff→Wr,getElem?_modify→Ws,length_toList→Wy,getElem?_append_left→WM,toList_map→W3,getElem?_push→W9,toList_eraseIdxIfInBounds→Waa,size_append→Waf
open List renaming getElem?_cons_succ→Wi,getElem?_eq_getElem→Wn,getElem?_eq_some_iff→Wq,getElem?_append_left→Ww,getElem?_append_right→Wx,getElem?_toArray→WA,getElem?_map→WB,eq_nil_of_length_eq_zero→WD,getElem?_set→WF,length_append→WG,mapM_cons→WH,length_map→WK,map_cons→WL,drop_eq_getElem_cons→WN,getElem?_cons_zero→WQ,getElem?_eraseIdx→WR,length_drop→WV,mem_of_getElem?→WX,getD_eq_getElem?_getD→WY,drop_of_length_le→W6,length_eraseIdx→Wab,getElem?_take→Wac,getElem?_drop→Wad,append_assoc→Wag,size_toArray→Wah
open Prod.mk renaming injEq→Wj
open Bool renaming eq_iff_iff→WJ,and_assoc→WS,and_true→WU,and_eq_true→WZ,false_eq_true→W7
namespace Go.Ab
open Go.RowKit
section
variable {P:Program} {w:World} {L:Nat→Prop} {ι:Inj} {H:AH} {nx:Nat} {M:Nat→Prop}
theorem zmf(a b:ByteArray):(a.toList == b.toList)=decide (a=b):=by rw[WJ,decide_eq_true_iff,beq_iff_eq,ByteArray.toList_eq,ByteArray.toList_eq];exact⟨Go.WideShapes.bytes_inj,fun h=>by rw[h]⟩
theorem zA1{t:TypeId}{neg:Bool}{x y:Operand}{xv yv:Value}{a b:AV}(hx:VR w (Lt L ι H) ι xv a)(hy:VR w (Lt L ι H) ι yv b)(hs:(seqR neg a b H nx).side):
  zaT P w L ι H nx (do eqGuard (bif neg then .neq else .eql) t x y xv yv;binOp (bif neg then .neq else .eql) t xv yv) (seqR neg a b H nx):=by
 cases hx with
 |
  str _ s h1 =>
  cases hy with
  |
   str _ u h2 =>
   simp only[seqR];cases neg
   ·
    refine⟨.bool (s.toList == u.toList),?_,?_,rfl,rfl,trivial⟩
    · simp[Sem.run_bind,eqGuard,binOp,Op.stringOp]
    · rw[zmf];exact .bool _ _
   ·
    refine⟨.bool (!(s.toList == u.toList)),?_,?_,rfl,rfl,trivial⟩
    · simp[Sem.run_bind,eqGuard,binOp,Op.stringOp]
    · rw[zmf];exact .bool _ _
  | _=>simp[seqR,bad] at hs
 | _=>cases b<;>simp[seqR,bad] at hs
theorem zuV{s:ByteArray}{i:Nat}(h:i < s.size):zso s i=(s[i]'h).toNat:=by
 unfold zso
 have:s.data.toList.getD i 0=s[i]'h:=by rw[WY,Wk,Wm h];rfl
 rw[this]
theorem zw3(n:UInt8):InR .u8 (n.toNat:Int):=by have:=n.toNat_lt;simp only[InR,IntKind.min,IntKind.max,IntKind.signed,IntKind.bits,if_false];exact⟨by omega,by simp;omega⟩
theorem zCE{t:TypeId}{xv iv:Value}{x i:AV}(hu:P.underlying t=some .string)(hx:VR w (Lt L ι H) ι xv x)(hi:VR w (Lt L ι H) ι iv i)(hs:(ztv x i H nx).side):
  zaT P w L ι H nx (Instr.index t xv iv) (ztv x i H nx):=by
 cases hx with
 |
  str _ s h1 =>
  cases hi with
  |
   int _ k n h2 =>
   simp only[ztv] at hs ⊢
   have hlt:n.toNat < s.size:=by omega
   refine⟨.int .u8 (zso s n.toNat),?_,?_,rfl,rfl,trivial⟩
   ·
    rw[run_index_string w t s k n hu,dif_pos ⟨hs.1,hs.2⟩,zuV hlt]
    try rfl
   · rw[zuV hlt];exact .int _ _ _ (zw3 _)
  | _=>simp[ztv,bad] at hs
 | _=>cases i<;>simp[ztv,bad] at hs
theorem zzK{mx:Bool}{ts:Array TypeId}{ty:TypeId}{xv yv:Value}{x y:AV}(hx:VR w (Lt L ι H) ι xv x)(hy:VR w (Lt L ι H) ι yv y)(hs:(minR mx x y H nx).side):
  zaT P w L ι H nx (bif mx then Builtin.max_ ts ty #[xv,yv] else Builtin.min_ ts ty #[xv,yv]) (minR mx x y H nx):=by
 cases hx with
 |
  int _ k a h1 =>
  cases hy with
  |
   int _ k' b h2 =>
   simp only[minR] at hs ⊢;subst hs;cases mx
   · exact⟨.int k (if b < a then b else a),by simp[Builtin.min_,Builtin.min2],(by split<;>exact .int _ _ _ ‹_›),rfl,rfl,trivial⟩
   · exact⟨.int k (if a < b then b else a),by simp[Builtin.max_,Builtin.max2],(by split<;>exact .int _ _ _ ‹_›),rfl,rfl,trivial⟩
  | _=>simp[minR,bad] at hs
 | _=>cases y<;>simp[minR,bad] at hs
theorem zs3(l:List UInt8):LR w M ι 1 (l.map fun b=>Value.int .u8 b.toNat) (l.map zlC):=by
 refine⟨by simp,fun i c h=>?_,fun v h=>?_,fun i c j a hi hj=>?_⟩
 · rw[WB] at h;obtain⟨b,_,rfl⟩:=We.1 h;rfl
 · obtain⟨b,_,rfl⟩:=List.mem_map.1 h;rfl
 ·
  rw[WB] at hi;obtain⟨b,hb,rfl⟩:=We.1 hi
  cases j with
  |
   zero =>
   cases hj;exact⟨.int .u8 b.toNat,by rw[Wt,Nat.add_zero,WB,hb];rfl,rfl,.int _ _ _ (zw3 b)⟩
  | succ j=>cases hj
theorem zkz{e:TypeId}(h:zm8 P e=true):P.underlying e=some (.int .u8)∧∃i,P.info? e=some i∧i.size=1∧i.bytes=1∧zhq P e=some [.int .u8 0]:=by
 unfold zm8 at h;simp only[WZ] at h;obtain⟨⟨h1,h2⟩,h3⟩:=h;refine⟨?_,?_⟩
 ·
  split at h1
  · assumption
  · cases h1
 ·
  split at h2
  ·
   rename_i i hi;simp only[WZ,beq_iff_eq] at h2;refine⟨i,hi,h2.1,h2.2,?_⟩;split at h3
   · rename_i n hz;rw[hz];simp only[beq_iff_eq] at h3;rw[h3]
   · cases h3
  · cases h2
theorem zCc {t tx ty e:TypeId} {xv yv:Value} {x y:AV} (rel:RelH w L ι H nx) (ht:P.underlying t=some (.slice e)) (htx:P.underlying tx=some .string) (hb:zm8 P e=true)
  (hx:VR w (Lt L ι H) ι xv x) (hy:VR w (Lt L ι H) ι yv y) (hs:(zpQ x y H nx).side):zgi P w L ι H nx (Builtin.append_ #[t,tx] ty #[xv,yv]) (zpQ x y H nx):=by
 obtain⟨_,i,hi,h1,h2,hz⟩:=zkz hb;obtain⟨i',zv,hi',hzv,hzs,_,_⟩:=zg0 hz;rw[hi] at hi';cases hi'
 have hpos:0 < i.size:=by omega
 have hby:0 < i.bytes:=by omega
 cases hy with
 |
  str _ s hsz =>
  have src:Src P i.size tx (.string s) s.size (byteCells s) w:=by rw[h1];exact Src.ofString w htx s
  have lr:LR w (Lt L ι H) ι i.size (byteCells s) (s.data.toList.map zlC):=by rw[h1];exact zs3 _
  have hnl:(s.data.toList.map zlC).length=s.size:=by rw[WK,Wy];rfl
  have nilcase:∀a:Option Addr,xv=.slice a 0 0→s.size≤140737488355328 →
    zgi P w L ι H nx (Builtin.append_ #[t,tx] ty #[xv,.string s]) ⟨s.size≤140737488355328,True,.own nx 0 0 0 s.size,H.set nx 0 (.row 1 (s.data.toList.map zlC) 0),nx+1⟩:=by
   rintro a rfl hbd
   obtain⟨v,w',l,h4,h5,h6⟩:=zkH (ty:=ty) (base:=a) (n:=0) (c:=0) (r:=nx) (q:=0) (g:=0) (nx':=nx+1) rel ht hi hzv hzs hpos hby (rel.sok _) (Wo _) (Wp _) (rel.freshI 0 0)
    (fun g2 l2 h=>by rw[rel.freshI] at h;cases h) (LR.nil i.size) rfl (Wf _) (fun h=>by omega) (fun h=>by omega) (Wl _) src lr hnl (by rw[h2];simpa using hbd)
   rw[h1] at h5 h6;refine⟨v,w',_,h4,h5,?_,trivial⟩
   simpa using h6
  cases hx with
  |
   own _ r q g off n a c l hl hmx hn hc ha =>
   cases hg:H.get r q with
   | none=>simp[zpQ,hg,bad] at hs
   |
    some o =>
    cases o with
    | fam sz ins=>simp[zpQ,hg,bad] at hs
    |
     row sz' els g' =>
     simp only[zpQ,hg] at hs ⊢;obtain⟨rfl,rfl,hle,hbd⟩:=hs;obtain⟨l',hl',ok⟩:=rel.row _ _ _ _ _ hg;rw[hl] at hl';cases hl'
     have hlen:((els.drop off).take n).length=n:=by simp;omega
     have ok':=ok;rw[←h1] at ok'
     obtain⟨ovs,h4,h5⟩:=LR.ofCells (w:=w) (M:=Lt L ι H) (ι:=ι) (b:=l.block) (o:=l.off+off * l.sz) hlen (sz:=i.size) (fun i c h=>ok'.wide _ _ (zcO h).2) (fun p c j x hi hj=>by
      obtain⟨h5,h6⟩:=zcO hi;obtain⟨v,h7,h8,h9⟩:=ok'.holds hmx _ c j x h6 hj;refine⟨v,?_,h8,h9⟩;rw[ok'.hsz,show l.off+off * i.size+p * i.size+j=l.off+(off+p) * i.size+j by rw[Wh];omega]
      exact h7)
     have hnone:ι r q (g+1)=none:=by
      cases hq:ι r q (g+1) with
      | none=>rfl
      | some l2=>have:=rel.gen r q _ _ _ hg _ _ hq;omega
     have hg':H.get r q=some (.row i.size els g):=by rw[h1];exact hg
     obtain⟨v,w',l2,h6,h7,h8⟩:=zkH (ty:=ty) (base:=a) (n:=n) (c:=c) (r:=r) (q:=q) (g:=g+1) (nx':=nx) rel ht hi hzv hzs hpos hby (.inl ⟨_,_,hg'⟩) (rel.idx _ _ _ _ hl) (Wf _) hnone
      (fun g2 l2 h=>Nat.le_succ_of_le (rel.gen r q _ _ _ hg _ _ h)) h4 hlen hn (fun hcp=>by
       refine⟨l.block,l.off+off * l.sz,ha hcp,⟨i.size,els,g,l,hg',hl,?_,rfl⟩,fun k hk=>?_,h5⟩
       · rw[ok'.hsz];exact WC (by omega) hpos
       ·
        have hcc:(off+c) * i.size≤l.cap * i.size:=Wu _ hc;rw[Wh] at hcc;have:=(ok'.plain hmx).there (off * i.size+k) (by omega);rw[ok'.hsz,Nat.add_assoc]
        exact this) (fun hcp b o he=>by
       have:=ha hcp;rw[he] at this;cases this
       exact(ok'.plain hmx).fz (WC (by omega) hpos)) (by omega) src lr hnl (by rw[h2,Wt];exact hbd)
     rw[h1] at h7 h8;exact⟨v,w',_,h6,h7,h8,trivial⟩
  | nilsl _=>exact nilcase none rfl hs
  | cut _ a=>exact nilcase a rfl hs
  | _=>simp[zpQ,bad] at hs
 | _=>cases x<;>simp[zpQ,bad] at hs
end
section
variable {P:Program} {w:World} {L:Nat→Prop} {ι:Inj} {H:AH} {nx:Nat} {M:Nat→Prop}
theorem zrZ:∀(l:List UInt8)(s:ByteArray),(l.map fun b=>(b.toNat:Int)).foldl (fun r n=>r.push (UInt8.ofNat n.toNat)) s=⟨(s.data.toList++l).toArray⟩
 | [],s=>by simp
 |
  b::l,s=>by
  simp only[WL,List.foldl_cons];rw[zrZ l]
  have e:UInt8.ofNat ((b.toNat:Int)).toNat=b:=by simp
  rw[e]
  congr 1
  simp[ByteArray.push]
theorem zqJ:∀ {els:List (List AV)} {l:List UInt8},zgN els=some l→l.length=els.length
 | [],l,h=>by cases h;rfl
 |
  c::r,l,h=>by
  unfold zgN at h;split at h
  · obtain⟨l',h1,rfl⟩:=We.1 h;simp[zqJ h1]
  · cases h
theorem LR.bytes:∀ {els:List (List AV)} {vs:List Value} {l:List UInt8},LR w M ι 1 vs els→zgN els=some l→vs=l.map fun b=>Value.int .u8 (b.toNat:Int)
 |
  [],vs,l,h,hl=>by
  cases hl;have:=h.size;exact WD (by simpa using this)
 |
  c::r,vs,l,h,hl=>by
  unfold zgN at hl;split at hl
  ·
   rename_i n;obtain⟨l',h1,rfl⟩:=We.1 hl
   cases vs with
   | nil=>have:=h.size;simp at this
   |
    cons v vs =>
    obtain⟨v',h2,h3,h4⟩:=h.rel 0 _ 0 _ rfl rfl;simp at h2;subst h2
    cases h4 with
    |
     int _ _ _ hr =>
     have hr':0≤n∧n≤255:=hr
     have tl:LR w M ι 1 vs r:=by refine⟨by have:=h.size;simp at this ⊢;omega,fun i c hi=>h.wide (i+1) c (by simpa using hi),fun v hv=>h.one v (by simp[hv]),fun i c j a hi hj=>?_⟩;obtain⟨v,h5,h6,h7⟩:=h.rel (i+1) c j a (by simpa using hi) hj;refine⟨v,?_,h6,h7⟩;rw[show (i+1) * 1+j=(i * 1+j)+1 by omega,Wi] at h5;exact h5
     rw[LR.bytes tl h1];simp only[WL,List.cons.injEq,Value.int.injEq,true_and,and_true];rw[UInt8.toNat_ofNat'];omega
  · cases hl
theorem zEj{t d e:TypeId}{xv:Value}{x:AV}(rel:RelH w L ι H nx)(ht:P.underlying t=some (.slice e))(hd:P.underlying d=some .string)(hb:zm8 P e=true)(hx:VR w (Lt L ι H) ι xv x)(hs:(b2sR x H nx).side):
  zaT P w L ι H nx (convert t d xv) (b2sR x H nx):=by
 obtain⟨he8,i,hi,h1,h2,hz⟩:=zkz hb;unfold b2sR at hs ⊢
 cases he:zgy 1 x H with
 | none=>simp[he,bad] at hs
 |
  some els =>
  cases hl:zgN els with
  | none=>simp[he,hl,bad] at hs
  |
   some l =>
   simp only[he,hl] at hs ⊢;obtain⟨hf,hlen⟩:=hs;obtain⟨m,hm⟩:=W0.1 hlen;obtain⟨vs,hsrc,lr,hnl⟩:=zxd rel ht (Wo 0) hx he hm hf;have hvs:=lr.bytes hl;have hll:=zqJ hl
   have hbig:l.length≤big:=by
    rw[hll,hnl]
    cases hx with
    | sl _ a sz n cap f V hn hb=>cases hm;exact hb
    | sl0=>cases hm;exact Wl _
    | nilsl=>cases hm;exact Wl _
    | cut=>cases hm;exact Wl _
    | own _ r q g off n a c l hl hmx hn hc ha=>cases hm;unfold maxLen at hmx;unfold big;omega
    | _=>cases hm
   have hsz:(⟨l.toArray⟩:ByteArray).size≤big:=by
    show l.toArray.size≤big
    simpa using hbig
   refine⟨.string ⟨l.toArray⟩,?_,.str _ _ hsz,rfl,rfl,hsz⟩
   have conv:∀xv',xv=xv'→(∃a n c,xv'=.slice a n c)→(convert t d xv').run P w=(Conv.bytesToString xv').run P w:=by
    rintro xv' _ ⟨a,n,c,rfl⟩
    cases a<;>simp[convert,Sem.run_bind,run_underlying ht,run_underlying hd,run_underlying he8]
   have hshape:∃a n c,xv=.slice a n c:=by
    cases hx<;>simp only[lenV] at hm<;>first | (cases hm;done)|exact⟨_,_,_,rfl⟩
   obtain⟨a,n,c,rfl⟩:=hshape;rw[conv _ rfl ⟨a,n,c,rfl⟩];have hc:=hsrc.cells;have hle:=hsrc.len w;simp[Builtin.lenOf] at hle;subst hle
   cases a with
   |
    none =>
    simp[Builtin.firstCells] at hc;rw[hvs] at hc
    have:l=[]:=by
     cases l with
     | nil=>rfl
     | cons b l=>simp at hc
    subst this;simp[Conv.bytesToString];rfl
   |
    some a =>
    have hc':(loadCells a n).run P w=.ok ((l.map fun b=>(b.toNat:Int)).map (Value.int .u8)).toArray w:=by simp only[Builtin.firstCells,Wt] at hc;rw[hc,hvs,List.map_map];rfl
    rw[run_bytesToString w a n c _ hc',zrZ];simp
theorem znj(a:Addr)(n:Nat)(x:Addr):(w.freeze a n).cell? x=w.cell? x:=by
 unfold World.freeze
 by_cases hn:n=0
 · rw[if_pos hn]
 ·
  rw[if_neg hn];unfold World.cell?;simp only[Ws]
  by_cases h:a.block=x.block
  ·
   rw[if_pos h]
   cases hh:w.heap[x.block]? with
   | none=>rfl
   | some o=>cases o<;>rfl
  · rw[if_neg h]
theorem zpu{a:Addr}{n b:Nat}(h:b≠a.block):(w.freeze a n).heap[b]? = w.heap[b]? := by
 unfold World.freeze;split
 · rfl
 · simp only[Ws];rw[if_neg (Ne.symm h)]
theorem zqe{a:Addr}{n:Nat}:(w.freeze a n).heap.size=w.heap.size:=by
 unfold World.freeze
 split<;>simp
theorem zrS{b lo hi:Nat}{c:Array Value}{e:TypeId}(hb:w.heap[b]? = some (.cells c e (lo,hi)))(hf:lo=hi∨c.size≤lo):
  ∃lo' hi',(w.freeze ⟨b,c.size,none⟩ 1).heap[b]? = some (.cells c e (lo',hi'))∧c.size≤lo':=by
 unfold World.freeze;rw[if_neg (by decide)];simp only[Ws,if_true,hb,WE]
 by_cases h:lo=hi
 · refine⟨c.size,c.size+1,?_,Wf _⟩;simp[h]
 · have:=hf.resolve_left h;refine⟨min lo c.size,max hi (c.size+1),?_,by omega⟩;simp[h]
theorem zr9{w':World}{b lo hi:Nat}{c:Array Value}{e:TypeId}(hb:w'.heap[b]? = some (.cells c e (lo,hi)))(hl:c.size≤lo){x:Nat}(hx:(w'.cell? ⟨b,x,none⟩).isSome=true):w'.frozen? ⟨b,x,none⟩=false:=by unfold World.cell? at hx;unfold World.frozen?;rw[hb] at hx ⊢;simp at hx;simp;omega
theorem zjO{a:Addr}{c:Array Value}{e:TypeId}{fr:Nat × Nat}(hb:w.heap[a.block]? = some (.cells c e fr)):(markStringish a).run P w=.ok () (w.freeze ⟨a.block,c.size,none⟩ 1):=by
 have hs:w.shape? a.block=some (e,c.size):=by unfold World.shape?;rw[hb]
 have hr:(shape a.block).run P w=.ok (some (e,c.size)) w:=by show Result.ok (w.shape? a.block) w=_;rw[hs]
 simp[markStringish,Sem.run_bind,hr]
theorem zBW{t e:TypeId}{xv:Value}{x:AV}(rel:RelH w L ι H nx)(ht:P.underlying t=some (.slice e))(hb:zm8 P e=true)(hx:VR w (Lt L ι H) ι xv x)(hs:(zq4 x H nx).side):
  zgi P w L ι H nx (convert t t xv) (zq4 x H nx):=by
 obtain⟨he8,i,hi,h1,h2,hz⟩:=zkz hb
 cases hx with
 |
  own _ r q g off n a c l hl hmx hn hc ha =>
  cases hg:H.get r q with
  | none=>simp[zq4,hg,bad] at hs
  |
   some o =>
   cases o with
   | fam sz ins=>simp[zq4,hg,bad] at hs
   |
    row sz els g' =>
    simp only[zq4,hg] at hs ⊢;obtain⟨rfl,rfl,hn0⟩:=hs;obtain⟨l',hl',ok⟩:=rel.row _ _ _ _ _ hg;rw[hl] at hl';cases hl';have had:=ha (by omega);subst had
    have hcap:0 < l.cap * l.sz:=by rw[ok.hsz];omega
    have hpl:=ok.plain hmx;have h0:=hpl.there 0 (by rw[←ok.hsz];exact hcap)
    have hblk:∃cs e0 lo hi,w.heap[l.block]? = some (.cells cs e0 (lo,hi)):=by
     have:=h0.1;unfold World.cell? at this
     cases hh:w.heap[l.block]? with
     | none=>rw[hh] at this;cases this
     |
      some o =>
      rw[hh] at this
      cases o<;>simp at this
      rename_i cs e0 fr;exact⟨cs,e0,fr.1,fr.2,rfl⟩
    obtain⟨cs,e0,lo,hi',hblk⟩:=hblk;obtain⟨lo',hi2,hnew,hle⟩:=zrS hblk (hpl.fz (by rw[←ok.hsz];exact hcap) _ _ _ _ hblk)
    have c1:Chg w ι H r q g l (w.freeze ⟨l.block,cs.size,none⟩ 1):=by refine⟨by unfold World.freeze;rfl,by unfold World.freeze;rfl,by unfold World.freeze;rfl,by rw[zqe];exact Wf _,fun b hb hn=>?_,fun hp=>.inl ⟨1,els,g,l,hg,hl,hp,rfl⟩,fun l0 h0=>by rw[hl] at h0;cases h0;rfl,fun g2 l2 h2=>rel.gen r q _ _ _ hg g2 l2 h2⟩;exact zpu (fun e=>hn ⟨1,els,g,l,hg,hl,hcap,e.symm⟩)
    have hst:=c1.step (.inl ⟨_,_,hg⟩) rel (rel.idx _ _ _ _ hl) (Wf _) (sz:=1) (els:=els) (.mk' ok.hsz hpl.len hmx (fun k hk=>by
     have:=hpl.there k hk
     have hc:((w.freeze ⟨l.block,cs.size,none⟩ 1).cell? ⟨l.block,l.off+k,none⟩).isSome=true:=by rw[znj];exact this.1
     exact⟨hc,zr9 hnew hle hc⟩) (fun _ c e lo hi hh=>by
      rw[hnew] at hh;cases hh
      exact .inr hle) ok.wide (fun i c j a hi hj=>by
     obtain⟨v,h3,h4,h5⟩:=ok.holds hmx i c j a hi hj
     exact⟨v,by rw[znj];exact h3,h4,c1.vr (.inl ⟨_,_,hg⟩) rel h5⟩))
    refine⟨_,_,_,?_,hst,c1.vr (.inl ⟨_,_,hg⟩) rel (.own ι r q g off n _ c l hl hmx hn hc (fun _=>rfl)),trivial⟩;simp[convert,Sem.run_bind,run_underlying ht,run_underlying he8,zjO (a:=⟨l.block,l.off+off * l.sz,none⟩) hblk]
 | _=>simp[zq4,bad] at hs
theorem zFm{t d e:TypeId}{xv:Value}{x:AV}(rel:RelH w L ι H nx)(ht:P.underlying t=some .string)(hd:P.underlying d=some (.slice e))(hb:zm8 P e=true)(hx:VR w (Lt L ι H) ι xv x)(hs:(s2bR x H nx).side):
  zgi P w L ι H nx (convert t d xv) (s2bR x H nx):=by
 obtain⟨he8,i,hi,h1,h2,hz⟩:=zkz hb
 cases hx with
 |
  str _ s hsz =>
  simp only[s2bR]
  have hml:s.size≤maxLen:=by unfold maxLen;unfold big at hsz;omega
  have hge:=grownCap_ge w s.size 0 e;have hgm:=grownCap_le_maxLen w s.size 0 e hml;generalize hcap:grownCap w s.size 0 e=cap at hge hgm;generalize hcs:(s.data.map fun b=>Value.int .u8 b.toNat)++Array.replicate (cap - s.size) (Value.int .u8 0)=cs
  have hcl:cs.size=cap:=by rw[←hcs];simp;show s.size+_=_;omega
  have hheap:(w.drew.alloc (.cells cs e)).heap[w.heap.size]? = some (.cells cs e (0,0)):=by have:(w.drew.alloc (.cells cs e)).heap=w.heap.push (.cells cs e):=rfl;rw[this];simp
  obtain⟨lo',hi2,hnew,hle⟩:=zrS hheap (.inl rfl)
  have hcell:∀k,((w.drew.alloc (.cells cs e)).freeze ⟨w.heap.size,cs.size,none⟩ 1).cell? ⟨w.heap.size,k,none⟩=cs[k]? := fun k=>by rw[znj];exact World.cell?_alloc_new w.drew _ _ k
  have c1:Chg w ι H nx 0 0 ⟨w.heap.size,0,cap,1⟩ ((w.drew.alloc (.cells cs e)).freeze ⟨w.heap.size,cs.size,none⟩ 1) :=
   ⟨by unfold World.freeze;rfl,by unfold World.freeze;rfl,by unfold World.freeze;rfl,by rw[zqe];simp,fun b hb _=>by rw[zpu (by show b≠w.heap.size;omega)];exact Below.heap_alloc w.drew _ b hb,fun _=>.inr (Wf _),
    fun l0 h0=>(by rw[rel.freshI] at h0;cases h0),fun g2 l2 h2=>(by rw[rel.freshI] at h2;cases h2)⟩
  have hlen:(s.data.toList.map zlC).length=s.size:=by rw[WK,Wy];rfl
  have hst:=c1.step (rel.sok 1) rel (Wo _) (Wp _) (els:=s.data.toList.map zlC) (.mk' rfl (by rw[hlen];exact hge) hgm (fun k hk=>by
   have hk':k < cap:=by simpa using hk
   have hc:(((w.drew.alloc (.cells cs e)).freeze ⟨w.heap.size,cs.size,none⟩ 1).cell? ⟨w.heap.size,0+k,none⟩).isSome=true:=by rw[Wv,hcell,Wm (by omega)];rfl
   exact⟨hc,zr9 hnew hle hc⟩) (fun _ c e lo hi hh=>by
    rw[hnew] at hh;cases hh
    exact .inr hle) (fun i c hi=>(zs3 (w:=w) (M:=Lt L ι H) (ι:=ι) s.data.toList).wide i c hi) (fun k c j a hk hj=>by
   obtain⟨v,h3,h4,h5⟩:=(zs3 (w:=w) (M:=Lt L ι H) (ι:=ι) s.data.toList).rel k c j a hk hj;refine⟨v,?_,h4,c1.vr (rel.sok 1) rel h5⟩;show World.cell? _ ⟨w.heap.size,0+k * 1+j,none⟩=_;rw[Wv,hcell,←hcs];have hlt:=(Wq.1 h3).1;rw[WK,Wy] at hlt;rw[WM (by simpa using hlt),←Wk,W3]
   exact h3))
  refine⟨.slice (some ⟨w.heap.size,0,none⟩) s.size cap,_,_,?_,hst,.own _ nx 0 0 0 s.size _ cap _ (Inj.put_same _ _ _ _ _) hgm hge (by simp) (fun _=>by simp),trivial⟩;have hm:=zjO (P:=P) (a:=⟨w.heap.size,0,none⟩) hheap;simp[convert,Sem.run_bind,run_underlying ht,run_underlying hd,run_underlying he8,Conv.stringToBytes,Question.forced,zdi];simp only[grownCap] at hcap;rw[hcap,hcs,hm];rfl
 | _=>simp[s2bR,bad] at hs
end
section
variable {P:Program} {w:World} {L:Nat→Prop} {ι:Inj} {H:AH} {nx:Nat} {M:Nat→Prop}
theorem zky{k k':IntKind}{b c:Int}{n cap:Nat}(h0:0≤b)(h1:b≤c)(h2:c≤cap):
  (Instr.sliceBounds true n cap none (some (.int k b)) (some (.int k' c))).run P w=.ok (0,b.toNat,c.toNat) w:=by
 have h3:0≤c:=by omega
 have h4:b≤(c.toNat:Int):=by omega
 simp[Instr.sliceBounds,Instr.sliceBound,asIntOf,h0,h2,h3];omega
theorem zFi {t e:TypeId} {i:TypeInfo} {xv hv mv:Value} {x h m:AV} (rel:RelH w L ι H nx) (hu:P.underlying t=some (.slice e)) (hinf:P.info? e=some i)
  (hx:VR w (Lt L ι H) ι xv x) (hh:VR w (Lt L ι H) ι hv h) (hm:VR w (Lt L ι H) ι mv m) (hs:(sl3R i.size x h m H nx).side) :
  zaT P w L ι H nx (Instr.sliceAt t xv none (some hv) (some mv)) (sl3R i.size x h m H nx):=by
 cases hh with
 |
  int _ k b hb =>
  cases hm with
  |
   int _ k' c hc =>
   cases hx with
   |
    sl _ ad sz n cap f V hn hbg hcc hL hv =>
    simp only[sl3R] at hs ⊢;obtain⟨rfl,h0,h1,h2⟩:=hs;refine⟨_,zdE hu hinf (zky h0 h1 (by omega)),?_,rfl,rfl,trivial⟩;simp only[Wz,Nat.zero_mul]
    have key:∀ad':Addr,ad'=ad→VR w (Lt L ι H) ι (.slice (some ad') b.toNat c.toNat) (.sl i.size b.toNat f):=by
     rintro ad' rfl
     exact .sl _ _ _ _ _ _ V (by omega) (by omega) (fun q j hq hj=>hcc q j (by omega) hj) (fun hp=>hL (by
      have hq:0 < b.toNat:=W5 (fun h=>by rw[h] at hp;simp at hp);have hz:0 < i.size:=W5 (fun h=>by rw[h] at hp;simp at hp)
      exact WC (by omega) hz)) (fun q j hq hj=>hv q j (by omega) hj)
    split
    · exact key _ rfl
    · exact key _ (by simp[Addr.add])
   |
    sl0 _ sz f =>
    simp only[sl3R] at hs ⊢;obtain⟨rfl,h0,h1,h2⟩:=hs
    have hb0:b=0:=by simp at h2;omega
    have hc0:c=0:=by simp at h2;omega
    subst hb0 hc0;refine⟨_,zdE hu hinf (zky h0 h1 (by omega)),?_,rfl,rfl,trivial⟩;simp;exact .sl0 _ _ _
   |
    nilsl _ =>
    simp only[sl3R] at hs ⊢;obtain⟨rfl,rfl⟩:=hs;refine⟨_,zdE hu hinf (zky (by omega) (by omega) (by omega)),?_,rfl,rfl,trivial⟩;simp;exact .nilsl _
   |
    own _ r q g off n a cp l hl hmx hn hcl ha =>
    cases hg:H.get r q with
    | none=>simp[sl3R,hg,bad] at hs
    |
     some o =>
     cases o with
     | fam sz ins=>simp[sl3R,hg,bad] at hs
     |
      row sz els g' =>
      simp only[sl3R,hg] at hs ⊢;obtain⟨rfl,rfl,h0,h1,h2⟩:=hs;refine⟨_,zdE hu hinf (zky h0 h1 (by omega)),?_,rfl,rfl,trivial⟩;simp only[Wz,Nat.zero_mul]
      have key:∀a':Option Addr,a'=a→VR w (Lt L ι H) ι (.slice a' b.toNat c.toNat) (.own r q g off b.toNat):=by rintro a' rfl;exact .own _ r q g off _ _ c.toNat l hl hmx (by omega) (by omega) (fun hp=>ha (by omega))
      split
      · exact key _ rfl
      · exact key _ (by cases a<;>simp[Addr.add])
   | _=>simp[sl3R,bad] at hs
  | _=>simp[sl3R,bad] at hs
 | _=>cases m<;>simp[sl3R,bad] at hs
theorem zo8{t:TypeId}{s:Nat}{cs:Array Value}{i:Nat}{v:Value}(ht:zpj P t=some s)(hv:cs[i]? = some v):(part t cs i).run P w=.ok v w:=by
 unfold zpj at ht
 split at ht<;>first | (cases ht;done)|skip
 all_goals
  rename_i hu;have hr:(isAgg t).run P w=.ok false w:=zgb hu w;simp[part,Sem.run_bind,hr,hv]
theorem zk7{s:List Nat}{a b:AV}{l m:List AV}{t:Bool}(h:zM (0::s) (a::l) (b::m)=some t):∃k x y t',a=.int k x∧b=.int k y∧zM s l m=some t'∧t=(decide (x=y)&&t'):=by
 unfold zM at h;split at h
 all_goals first
  | (cases h;done)
  | (rename_i e1 e2 e3;cases e1;done)
  | skip
 ·
  rename_i k x l1 k' y m1 e1 e2 e3;cases e1;cases e2;cases e3;split at h
  · rename_i hk;obtain⟨t',h1,h2⟩:=We.1 h;exact⟨_,_,_,t',rfl,by rw[hk],h1,h2.symm⟩
  · cases h
theorem zk4{s:List Nat}{a b:AV}{l m:List AV}{t:Bool}(h:zM (1::s) (a::l) (b::m)=some t):∃x y t',a=.str x∧b=.str y∧zM s l m=some t'∧t=(decide (x=y)&&t'):=by
 unfold zM at h;split at h
 all_goals first
  | (cases h;done)
  | (rename_i e1 e2 e3;cases e1;done)
  | skip
 · rename_i e1 e2 e3;cases e1;cases e2;cases e3;obtain⟨t',h1,h2⟩:=We.1 h;exact⟨_,_,t',rfl,rfl,h1,h2.symm⟩
theorem zjz{s:List Nat}{a b:AV}{l m:List AV}{t:Bool}(h:zM (2::s) (a::l) (b::m)=some t):∃x y t',a=.bool x∧b=.bool y∧zM s l m=some t'∧t=((x == y)&&t'):=by
 unfold zM at h;split at h
 all_goals first
  | (cases h;done)
  | (rename_i e1 e2 e3;cases e1;done)
  | skip
 · rename_i e1 e2 e3;cases e1;cases e2;cases e3;obtain⟨t',h1,h2⟩:=We.1 h;exact⟨_,_,t',rfl,rfl,h1,h2.symm⟩
theorem znm (d:Nat) {xs ys:Array Value} {asv bs:List AV} (hx:∀(i:Nat)(v:Value)(a:AV),xs[i]? = some v→asv[i]? = some a→VR w M ι v a) (hy:∀(i:Nat)(v:Value)(a:AV),ys[i]? = some v→bs[i]? = some a→VR w M ι v a)
  (hxs:xs.size=asv.length) (hys:ys.size=bs.length):∀(fs:List Field)(i:Nat)(ss:List Nat)(t:Bool),zgO P fs i=some ss→zM ss (asv.drop i) (bs.drop i)=some t →
   (Op.eqFields (d+1) xs ys fs).run P w=.ok t w
 |
  [],i,ss,t,h,he=>by
  cases h;unfold zM at he
  split at he<;>first | (cases he;simp[Op.eqFields];done) | (cases he;done)|skip
  all_goals simp_all
 |
  f::fs,i,ss,t,h,he=>by
  unfold zgO at h;split at h
  ·
   rename_i hf;obtain⟨rfl,hnm⟩:=hf;split at h
   ·
    rename_i s l hs hl;cases h
    have ha:∃a,asv[f.offset]? = some a:=by
     cases h2:asv[f.offset]? with
     | some a=>exact⟨a,rfl⟩
     |
      none =>
      rw[W6 (by simpa using h2)] at he;unfold zM at he
      split at he<;>simp_all
    have hb:∃b,bs[f.offset]? = some b:=by
     cases h2:bs[f.offset]? with
     | some a=>exact⟨a,rfl⟩
     |
      none =>
      rw[W6 (l:=bs) (by simpa using h2)] at he;unfold zM at he
      split at he<;>simp_all
    obtain⟨a,ha⟩:=ha;obtain⟨b,hb⟩:=hb;have hia:=(Wq.1 ha).1;have hib:=(Wq.1 hb).1;have hxv:xs[f.offset]? = some xs[f.offset]:=Wm (by omega);have hyv:ys[f.offset]? = some ys[f.offset]:=Wm (by omega);have hax:=hx _ _ _ hxv ha;have hby:=hy _ _ _ hyv hb
    have ea:asv.drop f.offset=a::asv.drop (f.offset+1):=by rw[WN hia];congr 1;rw[Wn hia] at ha;exact Option.some.inj ha
    have eb:bs.drop f.offset=b::bs.drop (f.offset+1):=by rw[WN hib];congr 1;rw[Wn hib] at hb;exact Option.some.inj hb
    rw[ea,eb] at he
    have fin:∀(r t':Bool),(Op.equalIn (d+1) f.type xs[f.offset] ys[f.offset]).run P w=.ok r w→zM l (asv.drop (f.offset+1)) (bs.drop (f.offset+1))=some t'→t=(r&&t') →
      (Op.eqFields (d+1) xs ys (f::fs)).run P w=.ok t w:=by
     intro r t' h1 h2 h3;have ih:=znm d hx hy hxs hys fs (f.offset+1) l t' hl h2;subst h3;simp only[Op.eqFields,if_pos hnm,Sem.run_bind,zo8 hs hxv,zo8 hs hyv,Result.andThen_ok,h1];cases r
     · simp
     · simp[ih]
    generalize xs[f.offset]=xv at hax fin;generalize ys[f.offset]=yv at hby fin;unfold zpj at hs;split at hs
    · rename_i k hu;cases hs;obtain⟨k1,n1,n2,t',rfl,rfl,h3,h4⟩:=zk7 he;cases hax;cases hby;exact fin _ t' (run_equalIn_int w d f.type k1 k n1 n2 hu) h3 h4
    · rename_i hu;cases hs;obtain⟨n1,n2,t',rfl,rfl,h3,h4⟩:=zk4 he;cases hax;cases hby;exact fin _ t' (run_equalIn_string w d f.type _ _ hu) h3 (by rw[h4,zmf])
    · rename_i hu;cases hs;obtain⟨n1,n2,t',rfl,rfl,h3,h4⟩:=zjz he;cases hax;cases hby;exact fin _ t' (run_equalIn_bool' w d f.type _ _ hu) h3 h4
    · cases hs
   · cases h
  · cases h
theorem zAy {t:TypeId} {fs:Array Field} {ss:List Nat} {neg:Bool} {x y:Operand} {xv yv:Value} {a b:AV} (hu:P.underlying t=some (.struct fs)) (hf:zgO P fs.toList 0=some ss) (hst:P.stoodInHeld t=false) (hgt:P.eqGuardType P.depth t=false)
  (hx:VR w (Lt L ι H) ι xv a) (hy:VR w (Lt L ι H) ι yv b) (hs:(eqsR neg ss a b H nx).side) :
  zaT P w L ι H nx (do eqGuard (bif neg then .neq else .eql) t x y xv yv;binOp (bif neg then .neq else .eql) t xv yv) (eqsR neg ss a b H nx):=by
 cases hx with
 |
  agg _ cs asv hsz h1 hv =>
  cases hy with
  |
   agg _ ds bs hsz2 h2 hv2 =>
   unfold eqsR at hs ⊢;simp only at hs ⊢
   cases he:zM ss asv bs with
   | none=>simp[he,bad] at hs
   |
    some r =>
    simp only[he] at hs ⊢
    have hfo:P.fieldsOf t=fs:=by unfold Program.fieldsOf;rw[hu]
    have hrun:(Op.equal t (.agg cs) (.agg ds)).run P w=.ok r w:=by have:=znm (P:=P) (w:=w) 9998 hv hv2 hsz hsz2 fs.toList 0 ss r hf (by simpa using he);show (Op.equalIn (9999+1) t (.agg cs) (.agg ds)).run P w=_;rw[run_equalIn_struct w 9999 t cs ds (by rw[hfo];exact hu) hst,hfo];exact this
    have hg:=fun(op:BinOp)=>run_eqGuard_agg (P:=P) w op t x y cs ds hgt
    cases neg
    · refine⟨.bool r,?_,.bool _ _,rfl,rfl,trivial⟩;simp[Sem.run_bind,hg,binOp,hrun]
    · refine⟨.bool (!r),?_,.bool _ _,rfl,rfl,trivial⟩;simp[Sem.run_bind,hg,binOp,hrun]
  | _=>simp[eqsR,bad] at hs
 | _=>cases b<;>simp[eqsR,bad] at hs
end
end Go.Ab
namespace Go.Ab
open Go.RowKit Go.MapKept
section
variable {P:Program} {w:World} {L:Nat→Prop} {ι:Inj} {H:AH} {nx:Nat} {M:Nat→Prop}
theorem zBu{t:TypeId}{z:AV}(h:zxv P t=some z):∃zv,(zeroValue t).run P w=.ok zv w∧∀(w:World)(M:Nat→Prop)(ι:Inj),VR w M ι zv z:=by
 unfold zxv at h;split at h
 ·
  rename_i i hi;split at h
  · rename_i zv hz;exact⟨zv,by simp[zeroValue,typeInfo,hi,hz],fun w M ι=>zjA 2 zv z h⟩
  · cases h
 · cases h
theorem zqV:¬maxLen+1≤maxLen:=by omega
theorem zwD:¬maxLen+2≤maxLen:=by omega
theorem zzz{t:TypeId}(rel:RelH w L ι H nx):zgi P w L ι H nx (Instr.makeMap t none) (zwT H nx):=by
 have c1:Chg w ι H nx 0 0 ⟨w.heap.size,0,maxLen+1,3⟩ (w.alloc (.map #[] 0)) :=
  ⟨rfl,rfl,rfl,by simp,fun b hb _=>Below.heap_alloc w _ b hb,fun _=>.inr (Wf _),fun l0 h0=>(by rw[rel.freshI] at h0;cases h0),fun g2 l2 h2=>(by rw[rel.freshI] at h2;cases h2)⟩
 have hb:(w.alloc (.map #[] 0)).heap[w.heap.size]? = some (.map #[] 0):=(by have:(w.alloc (.map #[] 0)).heap=w.heap.push (.map #[] 0):=rfl;rw[this];simp)
 have hst:=c1.step (rel.sok 3) rel (Wo _) (Wp _) (els:=[[.int .i64 0,.undef,.undef]]) (by
  refine⟨rfl,fun i c hi=>?_,fun h=>absurd h zqV,fun _=>⟨Nat.succ_pos 2,.map #[] 0,hb,rfl,by simp[ztR]⟩,fun i c j a hi hj=>?_⟩
  ·
   cases i with
   | zero=>cases hi;rfl
   | succ i=>cases hi
  ·
   cases i with
   | succ i=>cases hi
   |
    zero =>
    cases hi
    match j with
    |
     0 =>
     cases hj;exact⟨.int .i64 0,by unfold zfv;rw[if_neg zqV,hb];rfl,fun h=>absurd h zqV,.int _ _ _ (zhr (by decide) (by decide))⟩
    | 1=>cases hj;exact⟨.bool false,by unfold zfv;rw[if_neg zqV,hb];rfl,fun h=>absurd h zqV,.undef _ _⟩
    | 2=>cases hj;exact⟨.bool false,by unfold zfv;rw[if_neg zqV,hb];rfl,fun h=>absurd h zqV,.undef _ _⟩
    | j+3=>cases hj)
 exact⟨.map (some w.heap.size),_,_,run_makeMap t w,hst,.mp _ nx _ _ (Inj.put_same _ _ _ _ _) rfl,trivial⟩
theorem RowOk.map{es:List (List AV)}{l:Loc}(ok:RowOk w M ι 3 es l)(hm:l.cap=maxLen+1):∃ms clock,w.heap[l.block]? = some (.map ms clock)∧ms.size+1=es.length ∧
  ∀(i j:Nat)(c:List AV)(a:AV),es[i]? = some c→c[j]? = some a→∃v,zeX (.map ms clock) i j=some v∧VR w M ι v a:=by
 have hno:¬l.cap≤maxLen:=by omega
 obtain⟨_,o,h1,h2,h3⟩:=ok.spec hno;rw[hm,WO] at h3
 cases o<;>simp[ztR] at h3
 rename_i ms clock;refine⟨ms,clock,h1,h2,fun i j c a hi hj=>?_⟩;obtain⟨v,h4,_,h5⟩:=ok.hold i c j a hi hj;unfold zfv at h4;rw[if_neg hno,h1] at h4;exact⟨v,h4,h5⟩
theorem zoC{str:Option IntKind}{kt:TypeId}{kv:Value}{k:AV}(hk:zk3 P kt=some str)(ho:zgw str k)(hv:VR w M ι kv k):∃d,P.underlying kt=some d∧IsKey d kv ∧
  (∀kv2 k2 t,VR w M ι kv2 k2→zoP k k2=some t→Instr.sameNow d kv kv2=some t∧(t=true→kv2=kv))∧Instr.sameBits 10000 kv kv=true:=by
 unfold zk3 at hk;split at hk
 ·
  rename_i hu;cases hk
  cases hv<;>first | (cases ho;done)|skip
  rename_i s hs;refine⟨_,hu,trivial,fun kv2 k2 t h1 h2=>?_,?_⟩
  ·
   cases h1<;>simp[zoP] at h2
   rename_i u hu2;subst h2;refine⟨?_,fun h=>?_⟩
   · simp only[Instr.sameNow,Wd];rw[WJ,bytes_beq,decide_eq_true_iff]
   · rw[of_decide_eq_true h]
  · simp only[Instr.sameBits];exact(bytes_beq s s).2 rfl
 ·
  rename_i q hu;cases hk
  cases hv<;>first | (cases ho;done)|skip
  rename_i κ n hn;simp only[zgw] at ho;subst ho;refine⟨_,hu,rfl,fun kv2 k2 t h1 h2=>?_,?_⟩
  ·
   cases h1<;>simp[zoP] at h2
   rename_i κ2 n2 hn2;obtain⟨rfl,rfl⟩:=h2;refine⟨?_,fun h=>?_⟩
   · simp only[Instr.sameNow,if_true,Wd];rw[WJ,beq_iff_eq,decide_eq_true_iff]
   · rw[of_decide_eq_true h]
  · simp[Instr.sameBits]
 · cases hk
theorem zku{d:TypeDesc}{kv:Value}{k:AV}(hk:∀kv2 k2 t,VR w M ι kv2 k2→zoP k k2=some t→Instr.sameNow d kv kv2=some t∧(t=true→kv2=kv)):
  ∀(ms:List MapEntry) (cs:List (List AV)) (i:Nat) (r:Option (Nat × AV)),ms.length=cs.length →
   (∀(j:Nat)(e:MapEntry)(c:List AV),ms[j]? = some e→cs[j]? = some c→(∀a,c[0]? = some a→VR w M ι e.key a)∧(∀a,c[1]? = some a→VR w M ι e.val a))→zcA k cs i=some r →
   match r with
   | none=>Instr.findNow d kv ms i=some none
   | some (n,v)=>∃e,i≤n∧ms[n - i]? = some e∧Instr.findNow d kv ms i=some (some (n,e.val))∧VR w M ι e.val v∧e.key=kv
 | [],[],i,r,_,_,h=>by cases h;rfl
 | [],c::cs,i,r,hl,_,_=>by cases hl
 | e::ms,[],i,r,hl,_,_=>by cases hl
 |
  e::ms,c::cs,i,r,hl,hh,h=>by
  unfold zcA at h;split at h
  ·
   rename_i k' v u;obtain⟨h1,h2⟩:=hh 0 e _ rfl rfl;have hkey:=h1 k' rfl;have hval:=h2 v rfl;split at h
   · rename_i ht;cases h;obtain⟨h3,h4⟩:=hk _ _ _ hkey ht;exact⟨e,Wf _,by simp,by simp[Instr.findNow,h3],hval,h4 rfl⟩
   ·
    rename_i ht;obtain⟨h3,_⟩:=hk _ _ _ hkey ht;have ih:=zku hk ms cs (i+1) r (by simpa using hl) (fun j e c hj hc=>hh (j+1) e c (by simpa using hj) (by simpa using hc)) h
    cases r with
    | none=>simp[Instr.findNow,h3];exact ih
    |
     some p =>
     obtain⟨n,v'⟩:=p;obtain⟨e',h5,h6,h7,h8,h9⟩:=ih;refine⟨e',by omega,?_,by simp[Instr.findNow,h3];exact h7,h8,h9⟩;rw[show n - i=(n - (i+1))+1 by omega,Wi];exact h6
   · cases h
  · cases h
theorem zdt{ms:Array MapEntry}{clock i:Nat}{e:MapEntry}(h:ms[i]? = some e):zeX (.map ms clock) (i+1) 0=some e.key∧zeX (.map ms clock) (i+1) 1=some e.val∧zeX (.map ms clock) (i+1) 2=some (.int .i64 e.born):=by simp[zeX,h]
theorem zmo{ms:Array MapEntry}{clock:Nat}{hd:List AV}{cs:List (List AV)}(hh:∀(i j:Nat)(c:List AV)(a:AV),(hd::cs)[i]? = some c→c[j]? = some a→∃v,zeX (.map ms clock) i j=some v∧VR w M ι v a):
  ∀(j:Nat)(e:MapEntry)(c:List AV),ms.toList[j]? = some e→cs[j]? = some c→(∀a,c[0]? = some a→VR w M ι e.key a)∧(∀a,c[1]? = some a→VR w M ι e.val a):=by
 intro j e c he hc;rw[Wk] at he;obtain⟨h1,h2,_⟩:=zdt (clock:=clock) he;constructor
 · intro a ha;obtain⟨v,h3,h4⟩:=hh (j+1) 0 c a (by simpa using hc) ha;rw[h1] at h3;cases h3;exact h4
 · intro a ha;obtain⟨v,h3,h4⟩:=hh (j+1) 1 c a (by simpa using hc) ha;rw[h2] at h3;cases h3;exact h4
theorem zwt{ok:Bool}{v:Value}{a:AV}{b:Bool}{z:AV}{r:Option (Nat × AV)}(hb:b=r.isSome)(ha:a=mval z r)(hv:VR w M ι v a):VR w M ι (if ok then .tuple #[v,.bool b] else v) (mgot ok z r):=by
 subst hb;unfold mgot
 cases ok with
 | false=>simp only[W7,if_false,cond_false];rw[←ha];exact hv
 |
  true =>
  simp only[if_true,cond_true];rw[←ha];refine .tup _ _ _ rfl (fun i v' a' h1 h2=>?_)
  match i with
  | 0=>cases h1;cases h2;exact hv
  | 1=>cases h1;cases h2;exact .bool _ _
  | i+2=>cases h1
theorem zz4 {t kt et:TypeId} {str:Option IntKind} {ok:Bool} {z:AV} {mv kv:Value} {m k:AV} (rel:RelH w L ι H nx) (ht:P.underlying t=some (.map kt et)) (hkk:zk3 P kt=some str) (hz:zxv P et=some z)
  (hm:VR w (Lt L ι H) ι mv m) (hk:VR w (Lt L ι H) ι kv k) (hs:(zjV str ok z m k H nx).side):zaT P w L ι H nx (Instr.lookup t mv kv ok) (zjV str ok z m k H nx):=by
 obtain⟨zv,hzr,hzv⟩:=zBu (w:=w) hz
 cases hm with
 |
  nilmp =>
  simp only[zjV] at hs ⊢;obtain⟨d,hd,hik,_,_⟩:=zoC hkk hs hk;have hv:=zwt (ok:=ok) (b:=false) (z:=z) (r:=none) rfl rfl (hzv w (Lt L ι H) ι);refine⟨_,?_,hv,rfl,rfl,hv.wf⟩;have hf:(Instr.findKey kt kv (#[]:Array MapEntry).toList).run P w=.ok none w:=run_findKey hd rfl;simp only[Instr.lookup,Sem.run_bind,run_underlying ht,Result.andThen_ok,Sem.run_pure];rw[run_checkKey hd hik _ 9999];simp only[Result.andThen_ok];rw[hf];simp[hzr]
 |
  mp _ r q l hl hcap =>
  cases hg:H.get r q with
  | none=>simp[zjV,hg,bad] at hs
  |
   some o =>
   cases o with
   | fam sz ins=>simp[zjV,hg,bad] at hs
   |
    row sz els g =>
    cases els with
    | nil=>simp[zjV,hg,bad] at hs
    |
     cons hd0 cs =>
     simp only[zjV,hg] at hs ⊢
     cases hf:zcA k cs 0 with
     | none=>simp[hf,bad] at hs
     |
      some res =>
      simp only[hf] at hs ⊢;obtain⟨rfl,rfl,hko⟩:=hs;obtain⟨l',hl',okr⟩:=rel.row _ _ _ _ _ hg;rw[hl] at hl';cases hl';obtain⟨ms,clock,hb,hsz,hh⟩:=okr.map hcap;obtain⟨d,hd,hik,hsame,_⟩:=zoC hkk hko hk;have hfn:=zku hsame ms.toList cs 0 res (by simp at hsz ⊢;omega) (zmo hh) hf
      have run:∀(q:Option (Nat × Value)),Instr.findNow d kv ms.toList 0=some q→∀v b,(match q with|some (_,v')=>v=v'∧b=true|none=>v=zv∧b=false)→(Instr.lookup t (.map (some l.block)) kv ok).run P w=.ok (if ok then .tuple #[v,.bool b] else v) w:=by
       intro q hq v b hvb;have hfk:(Instr.findKey kt kv ms.toList).run P w=.ok q w:=run_findKey hd hq;simp only[Instr.lookup,Sem.run_bind,run_underlying ht,Result.andThen_ok,Sem.run_pure,Go.MapKept.run_getObj_map hb];rw[run_checkKey hd hik _ 9999];simp only[Result.andThen_ok];rw[hfk]
       cases q with
       | none=>obtain⟨rfl,rfl⟩:=hvb;simp[hzr]
       | some p=>obtain⟨n,v'⟩:=p;obtain⟨rfl,rfl⟩:=hvb;simp
      cases res with
      |
       none =>
       have hv:=zwt (ok:=ok) (b:=false) (z:=z) (r:=none) rfl rfl (hzv w (Lt L ι H) ι);exact⟨_,run none hfn zv false ⟨rfl,rfl⟩,hv,rfl,rfl,hv.wf⟩
      |
       some p =>
       obtain⟨n,v⟩:=p;obtain⟨e,_,_,h7,h8,_⟩:=hfn;have hv:=zwt (ok:=ok) (b:=true) (z:=z) (r:=some (n,v)) rfl rfl h8;exact⟨_,run _ h7 e.val true ⟨rfl,rfl⟩,hv,rfl,rfl,hv.wf⟩
 | _=>simp[zjV,bad] at hs
theorem zpf{old new:Value}(h:Instr.sameBits 10000 old new=true):(Instr.keyThatStays old new).run P w=.ok new w:=by simp[Instr.keyThatStays,h]
theorem Step.mapset {r q:Nat} {l:Loc} {els els':List (List AV)} {ms ms':Array MapEntry} {clock clock':Nat} (rel:RelH w L ι H nx) (hg:H.get r q=some (.row 3 els 0)) (hl:ι r q 0=some l) (hcap:l.cap=maxLen+1) (ok:RowOk w (Lt L ι H) ι 3 els l)
  (hb:w.heap[l.block]? = some (.map ms clock)) (hlen:ms'.size+1=els'.length) (hw:∀(i:Nat)(c:List AV),els'[i]? = some c→c.length=3)
  (hh:∀(i j:Nat)(c:List AV)(a:AV),els'[i]? = some c→c[j]? = some a→∃v,zeX (.map ms' clock') i j=some v∧VR w (Lt L ι H) ι v a) :
  Step w L ι H nx { w with heap:=w.heap.setIfInBounds l.block (.map ms' clock') } (ι.put r q 0 l) (H.set r q (.row 3 els' 0)) nx:=by
 have hpos:0 < l.cap * l.sz:=by rw[ok.hsz,hcap];omega
 have hno:¬l.cap≤maxLen:=by omega
 have c1:Chg w ι H r q 0 l { w with heap:=w.heap.setIfInBounds l.block (.map ms' clock') }:=by refine⟨rfl,rfl,rfl,by simp,fun b hb' hn=>?_,fun hp=>.inl ⟨3,els,0,l,hg,hl,hp,rfl⟩,fun l0 h0=>by rw[hl] at h0;cases h0;rfl,fun g2 l2 h2=>rel.gen r q _ _ _ hg g2 l2 h2⟩;exact(Go.MapKept.heap_set hb).2 b (fun e=>hn ⟨3,els,0,l,hg,hl,hpos,e.symm⟩)
 have hb':=(Go.MapKept.heap_set (o':=.map ms' clock') hb).1;refine c1.step (.inl ⟨_,_,hg⟩) rel (rel.idx _ _ _ _ hl) (Wf _) ⟨ok.hsz,hw,fun h=>absurd h hno,fun _=>⟨by rw[ok.hsz];omega,.map ms' clock',hb',hlen,by rw[hcap];simp[ztR]⟩,fun i c j a hi hj=>?_⟩;obtain⟨v,h1,h2⟩:=hh i j c a hi hj;refine⟨v,?_,fun h=>absurd h hno,c1.vr (.inl ⟨_,_,hg⟩) rel h2⟩;unfold zfv;rw[if_neg hno];simp only[hb',W8];exact h1
theorem zq5{α:Type}{l:List α}{i:Nat}{a d:α}(h:l[i]? = some a):l.getD i d=a:=by rw[WY,h];rfl
theorem zxF {t kt et:TypeId} {str:Option IntKind} {mv kv vv:Value} {m k v:AV} (rel:RelH w L ι H nx) (ht:P.underlying t=some (.map kt et)) (hkk:zk3 P kt=some str)
  (hm:VR w (Lt L ι H) ι mv m) (hk:VR w (Lt L ι H) ι kv k) (hv:VR w (Lt L ι H) ι vv v) (hs:(znz str m k v H nx).side) :
  ∃w' ι',(Instr.mapUpdate t mv kv vv).run P w=.ok () w'∧Step w L ι H nx w' ι' (znz str m k v H nx).H (znz str m k v H nx).nx∧(znz str m k v H nx).fact∧(znz str m k v H nx).v=.undef:=by
 cases hm with
 |
  mp _ r q l hl hcap =>
  cases hg:H.get r q with
  | none=>simp[znz,hg,bad] at hs
  |
   some o =>
   cases o with
   | fam sz ins=>simp[znz,hg,bad] at hs
   |
    row sz els g =>
    cases els with
    | nil=>simp[znz,hg,bad] at hs
    |
     cons hd0 cs =>
     simp only[znz,hg] at hs ⊢;split at hs
     ·
      rename_i c u u'
      cases hf:zcA k cs 0 with
      | none=>simp[hf,bad] at hs
      |
       some res =>
       have hside:sz=3∧g=0∧zgw str k:=by
        cases res with
        | none=>simp only[hf] at hs;exact⟨hs.1,hs.2.1,hs.2.2.1⟩
        | some p=>simp only[hf] at hs;exact hs
       obtain⟨rfl,rfl,hko⟩:=hside;obtain⟨l',hl',okr⟩:=rel.row _ _ _ _ _ hg;rw[hl] at hl';cases hl';obtain⟨ms,clock,hb,hsz,hh⟩:=okr.map hcap;obtain⟨d,hd,hik,hsame,hbits⟩:=zoC hkk hko hk;have hfn:=zku hsame ms.toList cs 0 res (by simp at hsz ⊢;omega) (zmo hh) hf
       have hclk:c=clock:=by obtain⟨v0,h1,h2⟩:=hh 0 0 _ _ rfl rfl;cases h1;cases h2;rfl
       subst hclk;have hgetO:=Go.MapKept.run_getObj_map (P:=P) hb;have hchk:(Instr.checkKey false 10000 kt kv).run P w=.ok () w:=run_checkKey hd hik _ 9999
       cases res with
       |
        none =>
        simp only[hf] at hs ⊢;have hfk:(Instr.findKey kt kv ms.toList).run P w=.ok none w:=run_findKey hd hfn;refine⟨_,_,?_,Step.mapset (ms':=ms.push ⟨kv,vv,clock⟩) (clock':=clock+1) rel hg hl hcap okr hb (by simp at hsz ⊢;omega) (fun i c hi=>?_) (fun i j c a hi hj=>?_),trivial,trivial⟩
        · simp only[Instr.mapUpdate,Sem.run_bind,run_underlying ht,Result.andThen_ok,hgetO,hchk,hfk,Go.MapKept.run_setObj_map _ hb]
        ·
         cases i with
         | zero=>cases hi;rfl
         |
          succ i =>
          simp only[Wi] at hi
          by_cases hlt:i < cs.length
          · rw[Ww hlt] at hi;exact okr.wide (i+1) c (by simpa using hi)
          ·
           rw[Wx (by omega)] at hi
           cases hi2:i - cs.length with
           | zero=>rw[hi2] at hi;cases hi;rfl
           | succ q=>rw[hi2] at hi;cases hi
        ·
         cases i with
         |
          zero =>
          cases hi
          match j with
          |
           0 =>
           cases hj
           exact⟨.int .i64 (clock+1:Nat),rfl,by
            have:((clock:Int)+1)=((clock+1:Nat):Int):=by omega
            rw[this]
            exact .int _ _ _ (zhr (by omega) (by omega))⟩
          |
           1 =>
           cases hj;obtain⟨v0,h1,h2⟩:=hh 0 1 _ _ rfl rfl;exact⟨v0,h1,h2⟩
          |
           2 =>
           cases hj;obtain⟨v0,h1,h2⟩:=hh 0 2 _ _ rfl rfl;exact⟨v0,h1,h2⟩
          | j+3=>cases hj
         |
          succ i =>
          simp only[Wi] at hi
          have hms:ms.size=cs.length:=by simp at hsz;omega
          by_cases hlt:i < cs.length
          ·
           rw[Ww hlt] at hi;obtain⟨v0,h1,h2⟩:=hh (i+1) j c a (by simpa using hi) hj;refine⟨v0,?_,h2⟩
           have e:(ms.push ⟨kv,vv,clock⟩)[i]? = ms[i]? := by rw[W9,if_neg (by omega)]
           rw[←h1]
           match j with
           | 0=>simp only[zeX,e]
           | 1=>simp only[zeX,e]
           | 2=>simp only[zeX,e]
           | j+3=>rfl
          ·
           rw[Wx (by omega)] at hi
           cases hi2:i - cs.length with
           | succ q=>rw[hi2] at hi;cases hi
           |
            zero =>
            rw[hi2] at hi;cases hi
            have hi3:i < cs.length+1:=by omega
            have:i=ms.size:=by omega
            have e:(ms.push ⟨kv,vv,clock⟩)[i]? = some ⟨kv,vv,clock⟩:=by rw[this];simp
            obtain⟨e1,e2,e3⟩:=zdt (clock:=clock+1) e
            match j with
            | 0=>cases hj;exact⟨kv,e1,hk⟩
            | 1=>cases hj;exact⟨vv,e2,hv⟩
            | 2=>cases hj;exact⟨_,e3,.int _ _ _ (zhr (by simp only;omega) (by simp only;omega))⟩
            | j+3=>cases hj
       |
        some p =>
        obtain⟨n,v1⟩:=p;simp only[hf] at hs ⊢;obtain⟨e,_,h6,h7,_,h9⟩:=hfn;rw[Wz,Wk] at h6;have hfk:(Instr.findKey kt kv ms.toList).run P w=.ok (some (n,e.val)) w:=run_findKey hd h7
        have hstay:(Instr.keyThatStays (((ms[n]?).map (·.key)).getD kv) kv).run P w=.ok kv w:=by rw[h6];simp only[WE,WP,h9];exact zpf hbits
        have hms:ms.size=cs.length:=by simp at hsz;omega
        have hn:n < ms.size:=(Wr.1 h6).1;refine⟨_,_,?_,Step.mapset (ms':=ms.modify n fun e=>{ e with key:=kv,val:=vv }) (clock':=clock) rel hg hl hcap okr hb (by simp;omega) (fun i c hi=>?_) (fun i j c a hi hj=>?_),trivial,trivial⟩
        · simp only[Instr.mapUpdate,Sem.run_bind,run_underlying ht,Result.andThen_ok,hgetO,hchk,hfk,hstay,Go.MapKept.run_setObj_map _ hb]
        ·
         cases i with
         | zero=>cases hi;rfl
         |
          succ i =>
          simp only[Wi,WF] at hi;split at hi
          ·
           split at hi
           · cases hi;rfl
           · cases hi
          · exact okr.wide (i+1) c (by simpa using hi)
        ·
         cases i with
         |
          zero =>
          cases hi
          match j with
          |
           0 =>
           cases hj;obtain⟨v0,h1,h2⟩:=hh 0 0 _ _ rfl rfl;exact⟨v0,h1,h2⟩
          |
           1 =>
           cases hj;obtain⟨v0,h1,h2⟩:=hh 0 1 _ _ rfl rfl;exact⟨v0,h1,h2⟩
          |
           2 =>
           cases hj;obtain⟨v0,h1,h2⟩:=hh 0 2 _ _ rfl rfl;exact⟨v0,h1,h2⟩
          | j+3=>cases hj
         |
          succ i =>
          simp only[Wi,WF] at hi;split at hi
          ·
           rename_i hni;subst hni;split at hi
           ·
            cases hi
            have e':(ms.modify n fun e=>{ e with key:=kv,val:=vv })[n]? = some { e with key:=kv,val:=vv }:=by rw[Ws,if_pos rfl,h6];rfl
            obtain⟨e1,e2,e3⟩:=zdt (clock:=clock) e'
            match j with
            | 0=>cases hj;exact⟨kv,e1,hk⟩
            | 1=>cases hj;exact⟨vv,e2,hv⟩
            |
             2 =>
             cases hj;have hcn:cs[n]? = some cs[n]:=Wn (by omega);have hw:=okr.wide (n+1) cs[n] (by simpa using hcn);obtain⟨v0,h1,h2⟩:=hh (n+1) 2 cs[n] _ (by simpa using hcn) (Wn (by omega));obtain⟨_,_,e6⟩:=zdt (clock:=clock) h6;rw[e6] at h1;cases h1;refine⟨_,e3,?_⟩;rw[zq5 hcn,zq5 (Wn (by omega))];exact h2
            | j+3=>cases hj
           · cases hi
          ·
           rename_i hni;obtain⟨v0,h1,h2⟩:=hh (i+1) j c a (by simpa using hi) hj;refine⟨v0,?_,h2⟩
           have e':(ms.modify n fun e=>{ e with key:=kv,val:=vv })[i]? = ms[i]? := by rw[Ws,if_neg hni]
           rw[←h1]
           match j with
           | 0=>simp only[zeX,e']
           | 1=>simp only[zeX,e']
           | 2=>simp only[zeX,e']
           | j+3=>rfl
     ·
      rename_i u u'
      cases hf:zcA k cs 0 with
      | none=>simp[hf,bad] at hs
      |
       some res =>
       have hside:sz=3∧g=0∧zgw str k:=by
        cases res with
        | none=>simp only[hf] at hs;exact hs
        | some p=>simp only[hf] at hs;exact hs
       obtain⟨rfl,rfl,hko⟩:=hside;obtain⟨l',hl',okr⟩:=rel.row _ _ _ _ _ hg;rw[hl] at hl';cases hl';obtain⟨ms,clock,hb,hsz,hh⟩:=okr.map hcap;obtain⟨d,hd,hik,hsame,hbits⟩:=zoC hkk hko hk;have hfn:=zku hsame ms.toList cs 0 res (by simp at hsz ⊢;omega) (zmo hh) hf;have hgetO:=Go.MapKept.run_getObj_map (P:=P) hb;have hchk:(Instr.checkKey false 10000 kt kv).run P w=.ok () w:=run_checkKey hd hik _ 9999
       cases res with
       |
        none =>
        simp only[hf] at hs ⊢;have hfk:(Instr.findKey kt kv ms.toList).run P w=.ok none w:=run_findKey hd hfn;refine⟨_,_,?_,Step.mapset (ms':=ms.push ⟨kv,vv,clock⟩) (clock':=clock+1) rel hg hl hcap okr hb (by simp at hsz ⊢;omega) (fun i c hi=>?_) (fun i j c a hi hj=>?_),trivial,trivial⟩
        · simp only[Instr.mapUpdate,Sem.run_bind,run_underlying ht,Result.andThen_ok,hgetO,hchk,hfk,Go.MapKept.run_setObj_map _ hb]
        ·
         cases i with
         | zero=>cases hi;rfl
         |
          succ i =>
          simp only[Wi] at hi
          by_cases hlt:i < cs.length
          · rw[Ww hlt] at hi;exact okr.wide (i+1) c (by simpa using hi)
          ·
           rw[Wx (by omega)] at hi
           cases hi2:i - cs.length with
           | zero=>rw[hi2] at hi;cases hi;rfl
           | succ q=>rw[hi2] at hi;cases hi
        ·
         cases i with
         |
          zero =>
          cases hi
          match j with
          |
           0 =>
           cases hj;exact⟨.int .i64 (clock+1:Nat),rfl,.undef _ _⟩
          |
           1 =>
           cases hj;obtain⟨v0,h1,h2⟩:=hh 0 1 _ _ rfl rfl;exact⟨v0,h1,h2⟩
          |
           2 =>
           cases hj;obtain⟨v0,h1,h2⟩:=hh 0 2 _ _ rfl rfl;exact⟨v0,h1,h2⟩
          | j+3=>cases hj
         |
          succ i =>
          simp only[Wi] at hi
          have hms:ms.size=cs.length:=by simp at hsz;omega
          by_cases hlt:i < cs.length
          ·
           rw[Ww hlt] at hi;obtain⟨v0,h1,h2⟩:=hh (i+1) j c a (by simpa using hi) hj;refine⟨v0,?_,h2⟩
           have e:(ms.push ⟨kv,vv,clock⟩)[i]? = ms[i]? := by rw[W9,if_neg (by omega)]
           rw[←h1]
           match j with
           | 0=>simp only[zeX,e]
           | 1=>simp only[zeX,e]
           | 2=>simp only[zeX,e]
           | j+3=>rfl
          ·
           rw[Wx (by omega)] at hi
           cases hi2:i - cs.length with
           | succ q=>rw[hi2] at hi;cases hi
           |
            zero =>
            rw[hi2] at hi;cases hi
            have hi3:i < cs.length+1:=by omega
            have:i=ms.size:=by omega
            have e:(ms.push ⟨kv,vv,clock⟩)[i]? = some ⟨kv,vv,clock⟩:=by rw[this];simp
            obtain⟨e1,e2,e3⟩:=zdt (clock:=clock+1) e
            match j with
            | 0=>cases hj;exact⟨kv,e1,hk⟩
            | 1=>cases hj;exact⟨vv,e2,hv⟩
            | 2=>cases hj;exact⟨_,e3,.undef _ _⟩
            | j+3=>cases hj
       |
        some p =>
        obtain⟨n,v1⟩:=p;simp only[hf] at hs ⊢;obtain⟨e,_,h6,h7,_,h9⟩:=hfn;rw[Wz,Wk] at h6;have hfk:(Instr.findKey kt kv ms.toList).run P w=.ok (some (n,e.val)) w:=run_findKey hd h7
        have hstay:(Instr.keyThatStays (((ms[n]?).map (·.key)).getD kv) kv).run P w=.ok kv w:=by rw[h6];simp only[WE,WP,h9];exact zpf hbits
        have hms:ms.size=cs.length:=by simp at hsz;omega
        have hn:n < ms.size:=(Wr.1 h6).1;refine⟨_,_,?_,Step.mapset (ms':=ms.modify n fun e=>{ e with key:=kv,val:=vv }) (clock':=clock) rel hg hl hcap okr hb (by simp;omega) (fun i c hi=>?_) (fun i j c a hi hj=>?_),trivial,trivial⟩
        · simp only[Instr.mapUpdate,Sem.run_bind,run_underlying ht,Result.andThen_ok,hgetO,hchk,hfk,hstay,Go.MapKept.run_setObj_map _ hb]
        ·
         cases i with
         | zero=>cases hi;rfl
         |
          succ i =>
          simp only[Wi,WF] at hi;split at hi
          ·
           split at hi
           · cases hi;rfl
           · cases hi
          · exact okr.wide (i+1) c (by simpa using hi)
        ·
         cases i with
         |
          zero =>
          cases hi
          match j with
          |
           0 =>
           cases hj;obtain⟨v0,h1,h2⟩:=hh 0 0 _ _ rfl rfl;exact⟨v0,h1,h2⟩
          |
           1 =>
           cases hj;obtain⟨v0,h1,h2⟩:=hh 0 1 _ _ rfl rfl;exact⟨v0,h1,h2⟩
          |
           2 =>
           cases hj;obtain⟨v0,h1,h2⟩:=hh 0 2 _ _ rfl rfl;exact⟨v0,h1,h2⟩
          | j+3=>cases hj
         |
          succ i =>
          simp only[Wi,WF] at hi;split at hi
          ·
           rename_i hni;subst hni;split at hi
           ·
            cases hi
            have e':(ms.modify n fun e=>{ e with key:=kv,val:=vv })[n]? = some { e with key:=kv,val:=vv }:=by rw[Ws,if_pos rfl,h6];rfl
            obtain⟨e1,e2,e3⟩:=zdt (clock:=clock) e'
            match j with
            | 0=>cases hj;exact⟨kv,e1,hk⟩
            | 1=>cases hj;exact⟨vv,e2,hv⟩
            |
             2 =>
             cases hj;have hcn:cs[n]? = some cs[n]:=Wn (by omega);have hw:=okr.wide (n+1) cs[n] (by simpa using hcn);obtain⟨v0,h1,h2⟩:=hh (n+1) 2 cs[n] _ (by simpa using hcn) (Wn (by omega));obtain⟨_,_,e6⟩:=zdt (clock:=clock) h6;rw[e6] at h1;cases h1;refine⟨_,e3,?_⟩;rw[zq5 hcn,zq5 (Wn (by omega))];exact h2
            | j+3=>cases hj
           · cases hi
          ·
           rename_i hni;obtain⟨v0,h1,h2⟩:=hh (i+1) j c a (by simpa using hi) hj;refine⟨v0,?_,h2⟩
           have e':(ms.modify n fun e=>{ e with key:=kv,val:=vv })[i]? = ms[i]? := by rw[Ws,if_neg hni]
           rw[←h1]
           match j with
           | 0=>simp only[zeX,e']
           | 1=>simp only[zeX,e']
           | 2=>simp only[zeX,e']
           | j+3=>rfl
     · simp[bad] at hs
 | _=>simp[znz,bad] at hs
end
section
variable {P:Program} {w:World} {L:Nat→Prop} {ι:Inj} {H:AH} {nx:Nat} {M:Nat→Prop}
theorem zCO{t ty kt et:TypeId}{mv:Value}{m:AV}(rel:RelH w L ι H nx)(ht:P.underlying t=some (.map kt et))(hm:VR w (Lt L ι H) ι mv m)(hs:(zpA m H nx).side):
  zaT P w L ι H nx (Builtin.len_ #[t] ty #[mv]) (zpA m H nx):=by
 cases hm with
 |
  nilmp =>
  refine⟨.int .i64 0,?_,.int _ _ _ (zhr (by decide) (by decide)),rfl,rfl,trivial⟩;simp[Builtin.len_,run_underlying ht,goInt]
 |
  mp _ r q l hl hcap =>
  cases hg:H.get r q with
  | none=>simp[zpA,hg,bad] at hs
  |
   some o =>
   cases o with
   | fam sz ins=>simp[zpA,hg,bad] at hs
   |
    row sz els g =>
    cases els with
    | nil=>simp[zpA,hg,bad] at hs
    |
     cons hd0 cs =>
     simp only[zpA,hg] at hs ⊢;obtain⟨rfl,rfl,hb⟩:=hs;obtain⟨l',hl',okr⟩:=rel.row _ _ _ _ _ hg;rw[hl] at hl';cases hl';obtain⟨ms,clock,hbl,hsz,hh⟩:=okr.map hcap
     have e:ms.size=cs.length:=by simpa using hsz
     refine⟨.int .i64 cs.length,?_,.int _ _ _ (zhr (by omega) (by unfold big at hb;omega)),rfl,rfl,trivial⟩;simp[Builtin.len_,run_underlying ht,Go.MapKept.run_getObj_map hbl,goInt,e]
 | _=>simp[zpA,bad] at hs
theorem zr4{ms ms':Array MapEntry}{c c' i i':Nat}(h:ms'[i']? = ms[i]?)(j:Nat):zeX (.map ms' c') (i'+1) j=zeX (.map ms c) (i+1) j:=by
 match j with
 | 0=>simp only[zeX,h]
 | 1=>simp only[zeX,h]
 | 2=>simp only[zeX,h]
 | j+3=>rfl
theorem zDi {t kt et:TypeId} {ts:Array TypeId} {ty:TypeId} {str:Option IntKind} {mv kv:Value} {m k:AV} (rel:RelH w L ι H nx) (hts:ts[0]? = some t) (ht:P.underlying t=some (.map kt et)) (hkk:zk3 P kt=some str)
  (hm:VR w (Lt L ι H) ι mv m) (hk:VR w (Lt L ι H) ι kv k) (hs:(zoH str m k H nx).side):zgi P w L ι H nx (Builtin.delete_ ts ty #[mv,kv]) (zoH str m k H nx):=by
 have tup0:∀(w:World)(M:Nat→Prop)(ι:Inj),VR w M ι (.tuple #[]) (.tup []):=fun w M ι=>.tup _ _ _ rfl (fun i v a h _=>by simp at h)
 cases hm with
 |
  nilmp =>
  simp only[zoH] at hs ⊢;obtain⟨d,hd,hik,_,_⟩:=zoC hkk hs hk;refine⟨.tuple #[],w,ι,?_,.refl rel,tup0 _ _ _,trivial⟩;simp only[Builtin.delete_,hts,WA,WQ,Wi,Sem.run_bind,run_underlying ht,Result.andThen_ok];rw[run_checkKey hd hik _ 9999];rfl
 |
  mp _ r q l hl hcap =>
  cases hg:H.get r q with
  | none=>simp[zoH,hg,bad] at hs
  |
   some o =>
   cases o with
   | fam sz ins=>simp[zoH,hg,bad] at hs
   |
    row sz els g =>
    cases els with
    | nil=>simp[zoH,hg,bad] at hs
    |
     cons hd0 cs =>
     simp only[zoH,hg] at hs ⊢
     cases hf:zcA k cs 0 with
     | none=>simp[hf,bad] at hs
     |
      some res =>
      have hside:sz=3∧g=0∧zgw str k:=by
       cases res with
       | none=>simp only[hf] at hs;exact hs
       | some p=>simp only[hf] at hs;exact hs
      obtain⟨rfl,rfl,hko⟩:=hside;obtain⟨l',hl',okr⟩:=rel.row _ _ _ _ _ hg;rw[hl] at hl';cases hl';obtain⟨ms,clock,hb,hsz,hh⟩:=okr.map hcap;obtain⟨d,hd,hik,hsame,_⟩:=zoC hkk hko hk;have hfn:=zku hsame ms.toList cs 0 res (by simp at hsz ⊢;omega) (zmo hh) hf
      have hms:ms.size=cs.length:=by simp at hsz;omega
      have hgetO:=Go.MapKept.run_getObj_map (P:=P) hb;have hchk:(Instr.checkKey ms.isEmpty 10000 kt kv).run P w=.ok () w:=run_checkKey hd hik _ 9999
      cases res with
      |
       none =>
       simp only[hf];have hfk:(Instr.findKey kt kv ms.toList).run P w=.ok none w:=run_findKey hd hfn;have hset:=Go.MapKept.run_setObj_map (P:=P) (.map ms clock) hb
       have hself:({ w with heap:=w.heap.setIfInBounds l.block (.map ms clock) }:World)=w:=by
        have:w.heap.setIfInBounds l.block (.map ms clock)=w.heap:=by
         apply Array.ext_getElem?;intro i;rw[Array.getElem?_setIfInBounds];split
         · rename_i e;subst e;obtain⟨hlt,_⟩:=Wr.1 hb;rw[if_pos hlt,hb]
         · rfl
        rw[this]
       rw[hself] at hset;refine⟨.tuple #[],w,ι,?_,.refl rel,tup0 _ _ _,trivial⟩;simp only[Builtin.delete_,hts,WA,WQ,Wi,Sem.run_bind,run_underlying ht,Result.andThen_ok,hgetO,hchk,hfk,hset];rfl
      |
       some p =>
       obtain⟨n,v1⟩:=p;simp only[hf];obtain⟨e,_,h6,h7,_,h9⟩:=hfn;rw[Wz,Wk] at h6;have hn:n < ms.size:=(Wr.1 h6).1;have hfk:(Instr.findKey kt kv ms.toList).run P w=.ok (some (n,e.val)) w:=run_findKey hd h7;have hset:=Go.MapKept.run_setObj_map (P:=P) (.map (ms.eraseIdxIfInBounds n) clock) hb
       have hl2:∀i,(ms.eraseIdxIfInBounds n)[i]? = if i < n then ms[i]? else ms[i+1]? := by intro i;rw[←Wk,Waa,WR,Wk,Wk]
       refine⟨.tuple #[],_,_,?_,Step.mapset (ms':=ms.eraseIdxIfInBounds n) (clock':=clock) rel hg hl hcap okr hb (by
        have:(ms.eraseIdxIfInBounds n).toList.length=(ms.toList.eraseIdx n).length:=by rw[Waa]
        rw[Wy,Wab,if_pos (by simpa using hn),Wy] at this;rw[List.length_cons,Wab,if_pos (by omega)]
        omega) (fun i c hi=>?_) (fun i j c a hi hj=>?_),tup0 _ _ _,trivial⟩
       · simp only[Builtin.delete_,hts,WA,WQ,Wi,Sem.run_bind,run_underlying ht,Result.andThen_ok,hgetO,hchk,hfk,hset];rfl
       ·
        cases i with
        | zero=>exact okr.wide 0 c hi
        |
         succ i =>
         simp only[Wi,WR] at hi;split at hi
         · exact okr.wide (i+1) c (by simpa using hi)
         · exact okr.wide (i+2) c (by simpa using hi)
       ·
        cases i with
        |
         zero =>
         obtain⟨v0,h1,h2⟩:=hh 0 j c a hi hj;refine⟨v0,?_,h2⟩;rw[←h1]
         match j with
         | 0=>rfl
         | j+1=>rfl
        |
         succ i =>
         simp only[Wi,WR] at hi;split at hi
         · rename_i hlt;obtain⟨v0,h1,h2⟩:=hh (i+1) j c a (by simpa using hi) hj;exact⟨v0,by rw[←h1];exact zr4 (by rw[hl2,if_pos hlt]) j,h2⟩
         · rename_i hlt;obtain⟨v0,h1,h2⟩:=hh (i+2) j c a (by simpa using hi) hj;exact⟨v0,by rw[←h1];exact zr4 (by rw[hl2,if_neg hlt]) j,h2⟩
 | _=>simp[zoH,bad] at hs
theorem zxi(rel:RelH w L ι H nx)(m:Option Nat)(clock:Nat)(a:AV)(c:Int)(hc:c=clock)(hcr:InR .i64 c)(hv:VR w (Lt L ι H) ι (.map m) a):
  Step w L ι H nx (w.alloc (.mapIter m clock #[] clock)) (ι.put nx 0 0 ⟨w.heap.size,0,maxLen+2,1⟩) (H.set nx 0 (.row 1 [[a],[.int .i64 c],[.int .i64 c]] 0)) (nx+1):=by
 have c1:Chg w ι H nx 0 0 ⟨w.heap.size,0,maxLen+2,1⟩ (w.alloc (.mapIter m clock #[] clock)) :=
  ⟨rfl,rfl,rfl,by simp,fun b hb _=>Below.heap_alloc w _ b hb,fun _=>.inr (Wf _),fun l0 h0=>(by rw[rel.freshI] at h0;cases h0),fun g2 l2 h2=>(by rw[rel.freshI] at h2;cases h2)⟩
 have hb:(w.alloc (.mapIter m clock #[] clock)).heap[w.heap.size]? = some (.mapIter m clock #[] clock):=(by have:(w.alloc (.mapIter m clock #[] clock)).heap=w.heap.push (.mapIter m clock #[] clock):=rfl;rw[this];simp);refine c1.step (rel.sok 1) rel (Wo _) (Wp _) ⟨rfl,fun i c hi=>?_,fun h=>absurd h zwD,fun _=>⟨Nat.succ_pos 0,_,hb,rfl,by simp[ztR]⟩,fun i c' j a' hi hj=>?_⟩
 ·
  match i with
  | 0=>cases hi;rfl
  | 1=>cases hi;rfl
  | 2=>cases hi;rfl
  | i+3=>cases hi
 ·
  subst hc
  have cell:∀v,zeX (.mapIter m clock #[] clock) i j=some v→VR w (Lt L ι H) ι v a'→∃v,zfv (w.alloc (.mapIter m clock #[] clock)) ⟨w.heap.size,0,maxLen+2,1⟩ 1 i j=some v∧(maxLen+2≤maxLen→v.oneCell'=true) ∧
    VR (w.alloc (.mapIter m clock #[] clock)) (Lt L (ι.put nx 0 0 ⟨w.heap.size,0,maxLen+2,1⟩) (H.set nx 0 (.row 1 [[a],[.int .i64 clock],[.int .i64 clock]] 0))) (ι.put nx 0 0 ⟨w.heap.size,0,maxLen+2,1⟩) v a':=fun v h1 h2 =>
   ⟨v,by unfold zfv;rw[if_neg zwD,hb];exact h1,fun h=>absurd h zwD,c1.vr (rel.sok 1) rel h2⟩
  match i with
  |
   0 =>
   cases hi
   match j with
   | 0=>cases hj;exact cell _ rfl hv
   | j+1=>cases hj
  |
   1 =>
   cases hi
   match j with
   | 0=>cases hj;exact cell _ rfl (.int _ _ _ hcr)
   | j+1=>cases hj
  |
   2 =>
   cases hi
   match j with
   | 0=>cases hj;exact cell _ rfl (.int _ _ _ hcr)
   | j+1=>cases hj
  | i+3=>cases hi
theorem zyG{t kt et:TypeId}{mv:Value}{m:AV}(rel:RelH w L ι H nx)(ht:P.underlying t=some (.map kt et))(hm:VR w (Lt L ι H) ι mv m)(hs:(zgQ m H nx).side):
  zgi P w L ι H nx (Instr.range t mv) (zgQ m H nx):=by
 cases hm with
 |
  nilmp =>
  simp only[zgQ];refine⟨.pointer (some ⟨w.heap.size,0,none⟩),_,_,?_,zxi rel none 0 .nilmp 0 rfl (zhr (by decide) (by decide)) (.nilmp _),.it _ nx _ (Inj.put_same _ _ _ _ _) (.inl rfl),trivial⟩;simp[Instr.range,Sem.run_bind,run_underlying ht]
 |
  mp _ r q l hl hcap =>
  cases hg:H.get r q with
  | none=>simp[zgQ,hg,bad] at hs
  |
   some o =>
   cases o with
   | fam sz ins=>simp[zgQ,hg,bad] at hs
   |
    row sz els g =>
    cases els with
    | nil=>simp[zgQ,hg,bad] at hs
    |
     cons hd0 cs =>
     simp only[zgQ,hg] at hs ⊢;split at hs
     ·
      rename_i c u u';obtain⟨rfl,rfl⟩:=hs;obtain⟨l',hl',okr⟩:=rel.row _ _ _ _ _ hg;rw[hl] at hl';cases hl';obtain⟨ms,clock,hb,hsz,hh⟩:=okr.map hcap;obtain⟨v0,h1,h2⟩:=hh 0 0 _ _ rfl rfl;cases h1
      have hcr:c=(clock:Int)∧InR .i64 c:=by
       cases h2 with
       | int _ _ _ h=>exact⟨rfl,h⟩
      refine⟨.pointer (some ⟨w.heap.size,0,none⟩),_,_,?_,zxi rel (some l.block) clock (.mp r q) c hcr.1 hcr.2 (.mp _ _ _ _ hl hcap),.it _ nx _ (Inj.put_same _ _ _ _ _) (.inl rfl),trivial⟩;simp[Instr.range,Sem.run_bind,run_underlying ht,Go.MapKept.run_getObj_map hb]
     · simp[bad] at hs
 | _=>simp[zgQ,bad] at hs
theorem RowOk.iter{es:List (List AV)}{l:Loc}(ok:RowOk w M ι 1 es l)(hm:l.cap=maxLen+2):∃m since seen stepped,w.heap[l.block]? = some (.mapIter m since seen stepped)∧seen.size+3=es.length ∧
  ∀(i:Nat)(a:AV),es[i]? = some [a]→∃v,zeX (.mapIter m since seen stepped) i 0=some v∧VR w M ι v a:=by
 have hno:¬l.cap≤maxLen:=by omega
 obtain⟨_,o,h1,h2,h3⟩:=ok.spec hno;rw[hm,WO] at h3
 cases o<;>simp[ztR] at h3
 rename_i m since seen stepped;refine⟨m,since,seen,stepped,h1,h2,fun i a hi=>?_⟩;obtain⟨v,h4,_,h5⟩:=ok.hold i _ 0 a hi rfl;unfold zfv at h4;rw[if_neg hno,h1] at h4;exact⟨v,h4,h5⟩
theorem RowOk.noBox{es:List (List AV)}{l:Loc}(ok:RowOk w M ι 1 es l)(h:2≤es.length)(hm:l.cap=maxLen+2∨l.cap=maxLen+3):l.cap=maxLen+2:=by
 rcases hm with hm|hm
 · exact hm
 ·
  obtain⟨_,o,_,h2,h3⟩:=ok.spec (by omega);rw[hm,WO] at h3
  cases o<;>simp[ztR] at h3
  simp only[vlen] at h2;omega
theorem zo6{m:Option Nat}{sn:Nat}{sv:Array Nat}{stp i b:Nat}(h:sv[i]? = some b):zeX (.mapIter m sn sv stp) (i+3) 0=some (.int .i64 (b:Int)):=by simp only[zeX,h];rfl
theorem zvi{m m':Option Nat}{sn sn':Nat}{sv sv':Array Nat}{stp stp' i:Nat}(h:sv'[i]? = sv[i]?):zeX (.mapIter m' sn' sv' stp') (i+3) 0=zeX (.mapIter m sn sv stp) (i+3) 0:=by simp only[zeX,h]
theorem Step.itset {r:Nat} {l:Loc} {els els':List (List AV)} {m:Option Nat} {since:Nat} {seen seen':Array Nat} {st st':Nat} {w1:World} (rel:RelH w L ι H nx) (hw1:w1=w∨w1=w.drew) (hg:H.get r 0=some (.row 1 els 0)) (hl:ι r 0 0=some l) (hcap:l.cap=maxLen+2) (ok:RowOk w (Lt L ι H) ι 1 els l)
  (hb:w.heap[l.block]? = some (.mapIter m since seen st)) (hlen:seen'.size+3=els'.length) (hw:∀(i:Nat)(c:List AV),els'[i]? = some c→c.length=1)
  (hh:∀(i:Nat)(a:AV),els'[i]? = some [a]→∃v,zeX (.mapIter m since seen' st') i 0=some v∧VR w (Lt L ι H) ι v a) :
  Step w L ι H nx (Go.ChangeMaps.setBlock w1 l.block (.mapIter m since seen' st')) (ι.put r 0 0 l) (H.set r 0 (.row 1 els' 0)) nx:=by
 have hpos:0 < l.cap * l.sz:=by rw[ok.hsz,hcap];omega
 have hno:¬l.cap≤maxLen:=by omega
 have hh1:w1.heap=w.heap:=by rcases hw1 with rfl|rfl<;>rfl
 have c1:Chg w ι H r 0 0 l (Go.ChangeMaps.setBlock w1 l.block (.mapIter m since seen' st')):=by refine⟨by rcases hw1 with rfl|rfl<;>rfl,by rcases hw1 with rfl|rfl<;>rfl,by rcases hw1 with rfl|rfl<;>rfl,by simp[Go.ChangeMaps.setBlock,hh1],fun b hb' hn=>?_,fun hp=>.inl ⟨1,els,0,l,hg,hl,hp,rfl⟩,fun l0 h0=>by rw[hl] at h0;cases h0;rfl,fun g2 l2 h2=>rel.gen r 0 _ _ _ hg g2 l2 h2⟩;show (w1.heap.setIfInBounds l.block _)[b]? = _;rw[hh1];exact(Go.MapKept.heap_set hb).2 b (fun e=>hn ⟨1,els,0,l,hg,hl,hpos,e.symm⟩)
 have hb':(Go.ChangeMaps.setBlock w1 l.block (.mapIter m since seen' st')).heap[l.block]? = some (.mapIter m since seen' st'):=by show (w1.heap.setIfInBounds l.block _)[l.block]? = _;rw[hh1];exact(Go.MapKept.heap_set hb).1
 refine c1.step (.inl ⟨_,_,hg⟩) rel (rel.idx _ _ _ _ hl) (Wf _) ⟨ok.hsz,hw,fun h=>absurd h hno,fun _=>⟨by rw[ok.hsz];omega,.mapIter m since seen' st',hb',hlen,by rw[hcap];simp[ztR]⟩,fun i c j a hi hj=>?_⟩;have hc1:=hw i c hi
 obtain⟨a0,rfl⟩:∃a0,c=[a0]:=by
  match c,hc1 with
  | [a0],_=>exact⟨a0,rfl⟩
 have hj0:j=0∧a=a0:=by
  match j with
  | 0=>cases hj;exact⟨rfl,rfl⟩
  | j+1=>cases hj
 obtain⟨rfl,rfl⟩:=hj0;obtain⟨v,h1,h2⟩:=hh i a hi;refine⟨v,?_,fun h=>absurd h hno,c1.vr (.inl ⟨_,_,hg⟩) rel h2⟩;unfold zfv;rw[if_neg hno];simp only[hb',W8];exact h1
theorem zCz {t e:TypeId} {len:Nat} {inf:TypeInfo} {d:TypeDesc} (hu:P.underlying t=some (.array len e)) (hi:P.info? e=some inf) (hd:P.underlying e=some d) (hone:zdy d=true∨inf.size=1)
  {xv iv:Value} {x i:AV} (hx:VR w (Lt L ι H) ι xv x) (hiv:VR w (Lt L ι H) ι iv i) (hs:(zrq len inf.size (zdy d) x i H nx).side):zaT P w L ι H nx (Instr.index t xv iv) (zrq len inf.size (zdy d) x i H nx):=by
 cases hx with
 |
  agg _ cs asv hsz h1 hv =>
  cases hiv with
  |
   int _ k n hn =>
   simp only[zrq] at hs ⊢;obtain⟨h0,hlt,hle⟩:=hs
   have hkn:n.toNat < len:=by omega
   have hin:n.toNat * inf.size+inf.size≤len * inf.size:=by have:(n.toNat+1) * inf.size≤len * inf.size:=Wu _ hkn;rw[Wh] at this;omega
   have hc:(0≤n∧n < (len:Int)):=⟨h0,hlt⟩
   cases hr:zdy d with
   |
    true =>
    have hv':VR w (Lt L ι H) ι (.agg (cs.extract (n.toNat * inf.size) (n.toNat * inf.size+inf.size))) (.agg (sub asv (n.toNat * inf.size) inf.size)):=by
     have hsize:(cs.extract (n.toNat * inf.size) (n.toNat * inf.size+inf.size)).size=inf.size:=by simp;omega
     refine .agg _ _ _ (by rw[hsize,zoL _ _ _ (by omega)]) (fun i v hi'=>?_) (fun i v a hi' ha=>?_)
     ·
      have hlt:i < inf.size:=by rw[←hsize];exact(Wr.1 hi').1
      rw[ziT _ _ _ _ (by omega) (by omega)] at hi';exact h1 _ _ hi'
     ·
      have hlt:i < inf.size:=by rw[←hsize];exact(Wr.1 hi').1
      rw[ziT _ _ _ _ (by omega) (by omega)] at hi';rw[zvP _ _ _ _ hlt] at ha;exact hv _ _ _ hi' ha
    simp only[cond_true];refine⟨_,?_,hv',rfl,rfl,hv'.wf⟩;simp[Instr.index,asIntOf,Sem.run_bind,run_underlying hu,hc,part,zgb hd,hr,sizeOf,typeInfo,hi]
   |
    false =>
    have hs1:inf.size=1:=by rcases hone with h|h;rw[hr] at h;cases h;exact h
    rw[hs1,Wt] at hin
    have hb:n.toNat < cs.size:=by rw[hs1,Wt] at hle;omega
    simp only[cond_false,hs1,Wt];have hc1:cs[n.toNat]? = some cs[n.toNat]:=Wm hb;have ha1:asv[n.toNat]? = some asv[n.toNat]:=Wn (by omega);have hvv:=hv _ _ _ hc1 ha1;have e:asv.getD n.toNat .undef=asv[n.toNat]:=zq5 ha1;rw[e];refine⟨_,?_,hvv,rfl,rfl,hvv.wf⟩;simp[Instr.index,asIntOf,Sem.run_bind,run_underlying hu,hc,part,zgb hd,hr,sizeOf,typeInfo,hi,hs1,hb]
  | _=>simp[zrq,bad] at hs
 | _=>cases i<;>simp[zrq,bad] at hs
theorem zAW {t e:TypeId} {len:Nat} {inf:TypeInfo} (hu:P.underlying t=some (.array len e)) (hi:P.info? e=some inf) (hpos:0 < inf.size)
  {xv iv:Value} {x i:AV} (hx:VR w (Lt L ι H) ι xv x) (hiv:VR w (Lt L ι H) ι iv i) (hs:(zlN len inf.size x i H nx).side):zaT P w L ι H nx (Instr.indexAt t xv iv) (zlN len inf.size x i H nx):=by
 have run:∀(a:Addr)(k:IntKind)(n:Int),0≤n→n < (len:Int)→(Instr.indexAt t (.pointer (some a)) (.int k n)).run P w=.ok (.pointer (some (a.add (n.toNat * inf.size)))) w:=by intro a k n h0 h1;have hc:(0≤n∧n < (len:Int)):=⟨h0,h1⟩;simp[Instr.indexAt,asIntOf,Sem.run_bind,run_underlying hu,Instr.sureAddr,hc,sizeOf,typeInfo,hi]
 cases hx with
 |
  ptr _ r q g j f l hl hm =>
  cases hiv with
  |
   int _ k n hn =>
   simp only[zlN] at hs ⊢;refine⟨_,run _ k n hs.1 hs.2,?_,rfl,rfl,trivial⟩;rw[add_mid,Nat.add_assoc];exact .ptr _ r q g j _ l hl hm
  | _=>simp[zlN,bad] at hs
 |
  iptr _ a m c V hc hL hv =>
  cases hiv with
  |
   int _ k n hn =>
   simp only[zlN] at hs ⊢;obtain⟨h0,h1,h2⟩:=hs
   have hkn:n.toNat < len:=by omega
   have hin:n.toNat * inf.size+inf.size≤len * inf.size:=by have:(n.toNat+1) * inf.size≤len * inf.size:=Wu _ hkn;rw[Wh] at this;omega
   refine⟨_,run _ k n h0 h1,?_,rfl,rfl,trivial⟩;refine .iptr _ _ _ _ (fun j=>V (n.toNat * inf.size+j)) (fun j hj=>?_) (fun _=>by rw[zc1];exact hL (by omega)) (fun j hj=>hv _ (by omega));rw[Go.Deep.add_add];exact hc _ (by omega)
  | _=>simp[zlN,bad] at hs
 | _=>cases i<;>simp[zlN,bad] at hs
theorem zsA{n:Nat}{k v:AV}:∀ {ml:List MapEntry} {es:List (List AV)},(∀(i:Nat)(cs:List AV),es[i]? = some cs→∃e,ml[i]? = some e∧∃kk vv bb,cs=[kk,vv,bb]∧VR w M ι e.key kk∧VR w M ι e.val vv∧VR w M ι (.int .i64 e.born) bb) →
  zwj (n:Int) es=some (k,v)→∃e,ml.find? (·.born == n)=some e∧VR w M ι e.key k∧VR w M ι e.val v
 | ml,[],_,h=>by cases h
 |
  ml,cs::es,hr,h=>by
  obtain⟨e,he,kk,vv,bb,rfl,h1,h2,h3⟩:=hr 0 cs rfl
  cases ml with
  | nil=>cases he
  |
   cons e' ml =>
   cases he;unfold zwj at h
   try simp only at h
   cases bb with
   |
    int ik b' =>
    cases h3
    try simp only at h
    by_cases hb:(e.born:Int)=(n:Int)
    ·
     rw[if_pos hb] at h;cases h
     have hbn:e.born=n:=by omega
     exact⟨e,by rw[List.find?_cons,show (e.born == n)=true by simp[hbn]],h1,h2⟩
    · rw[if_neg hb] at h;obtain⟨e2,h4,h5⟩:=zsA (ml:=ml) (fun i cs' hi=>hr (i+1) cs' hi) h;refine⟨e2,?_,h5⟩;rw[List.find?_cons,show (e.born == n)=false by simp;omega];exact h4
   | _=>first | (cases h;done) | (simp at h;done)
theorem zDz{xv:Value}{x:AV}(rel:RelH w L ι H nx)(hx:VR w (Lt L ι H) ι xv x)(hs:(ztk x H nx).side):zaT P w L ι H nx (Instr.entry xv) (ztk x H nx):=by
 cases hx with
 |
  it _ r l hl hcap =>
  unfold ztk at hs ⊢;simp only at hs ⊢;split at hs
  ·
   rename_i sz m sn st seen g hg;split at hs
   ·
    rename_i rm qm t b hlast;split at hs
    ·
     rename_i sz2 hd es g2 hg2;split at hs
     ·
      rename_i c u u' k v hfind;obtain⟨rfl,rfl,rfl,rfl,rfl⟩:=hs;obtain⟨l',hl',okr⟩:=rel.row _ _ _ _ _ hg;rw[hl] at hl';cases hl';have hcap:=okr.noBox (by simp) hcap;obtain⟨m,sn',sv,stp,hb,hsz,hh⟩:=okr.iter hcap;obtain⟨v0,e0,r0⟩:=hh 0 (.mp rm qm) rfl;cases e0
      cases r0 with
      |
       mp _ _ _ lm hlm hcm =>
       obtain⟨v2,e2,r2⟩:=hh 2 (.int .i64 c) rfl;cases e2;obtain⟨l'',hl'',okm⟩:=rel.row _ _ _ _ _ hg2;rw[hlm] at hl'';cases hl'';obtain⟨ms,clock,hbm,hszm,hhm⟩:=okm.map hcm
       have hc:c=(clock:Int):=by obtain⟨v3,e3,r3⟩:=hhm 0 0 _ _ rfl rfl;cases e3;cases r3;rfl
       have hst:stp=clock:=by cases r2;omega
       have hne:seen≠[]:=by intro e;rw[e] at hlast;cases hlast
       have hlen:0 < seen.length:=List.length_pos_iff.2 hne
       have hgl:seen[seen.length - 1]? = some [.int .i64 b]:=by rw[←List.getLast?_eq_getElem?];exact hlast
       have hsvl:sv.size=seen.length:=by simp at hsz;omega
       obtain⟨v4,e4,r4⟩:=hh (seen.length - 1+3) (.int .i64 b) (by simpa using hgl);obtain⟨s0,hsv⟩:∃s0,sv[seen.length - 1]? = some s0:=⟨_,Wm (by omega)⟩;rw[zo6 hsv] at e4;cases e4
       have hbb:b=(s0:Int):=by cases r4;rfl
       have hback:sv.back? = some s0:=by rw[Array.back?_eq_getElem?,hsvl];exact hsv
       rw[hbb] at hfind
       obtain⟨e,h5,h6,h7⟩:=zsA (w:=w) (M:=Lt L ι H) (ι:=ι) (ml:=ms.toList) (fun i cs hi=>by
        have hwid:=okm.wide (i+1) cs (by simpa using hi)
        have hil:i < ms.size:=by have:=(Wq.1 hi).1;simp at hszm;omega
        refine⟨ms[i],by rw[Wk];exact Wm hil,?_⟩
        match cs,hwid,hi with
        |
         [kk,vv,bb],_,hi =>
         obtain⟨f1,f2,f3⟩:=zdt (clock:=clock) (Wm hil);obtain⟨w1,g1,q1⟩:=hhm (i+1) 0 _ kk (by simpa using hi) rfl;obtain⟨w2,g2,q2⟩:=hhm (i+1) 1 _ vv (by simpa using hi) rfl;obtain⟨w3,g3,q3⟩:=hhm (i+1) 2 _ bb (by simpa using hi) rfl;rw[f1] at g1;cases g1;rw[f2] at g2;cases g2;rw[f3] at g3;cases g3
         exact⟨kk,vv,bb,rfl,q1,q2,q3⟩) hfind
       refine⟨.tuple #[e.key,e.val],?_,.tup _ _ _ rfl (fun i v a h1 h2=>?_),rfl,rfl,trivial⟩
       ·
        have hf:ms.find? (·.born == s0)=some e:=by rw[←Array.find?_toList];exact h5
        simp only[Instr.entry,getObj,Sem.run_bind,Sem.run,hb,hbm,Result.andThen,hback,hst,bne_self_eq_false,W7,if_false,hf];rfl
       ·
        match i with
        | 0=>cases h1;cases h2;exact h6
        | 1=>cases h1;cases h2;exact h7
        | i+2=>cases h2
     · exact hs.elim
    · exact hs.elim
   · exact hs.elim
  · exact hs.elim
 | _=>simp[ztk,bad] at hs
end
end Go.Ab
namespace Go.Ab
open Go.RowKit
section
variable {P:Program} {w:World} {L:Nat→Prop} {ι:Inj} {H:AH} {nx:Nat} {M:Nat→Prop}
theorem zyq {t e:TypeId} {len:Nat} {i:TypeInfo} {z:List AV} {parts:Array (Nat × Value)} {qs:List (Nat × Nat × AV)} (hu:P.underlying t=some (.array len e)) (hi:P.info? e=some i) (hz:zhq P t=some z)
  (hps:PL w (Lt L ι H) ι (fun j=>some (j * i.size,i.size)) parts.toList qs) (hs:(zli z qs H nx).side):zaT P w L ι H nx (Instr.build t parts) (zli z qs H nx):=by
 obtain⟨i',zv,hi',hzv,hsz,hzl,hcr⟩:=zg0 hz;obtain⟨cs',h1,h2⟩:=zzR hps (hcr w (Lt L ι H) ι) hs;refine⟨.agg cs',?_,h2.agg,rfl,rfl,trivial⟩;simp only[Instr.build,zeroValue,typeInfo,sizeOf,Sem.run_bind,run_program,Result.andThen_ok,hi',hi,Sem.run_pure,hzv,run_underlying hu,h1]
def CV(w:World)(M:Nat→Prop)(ι:Inj)(x:Value)(asv:List AV):Bool→Prop
 | false=>∃a,asv=[a]∧VR w M ι x a
 | true=>∃cs:Array Value,x=.agg cs∧cs.size=asv.length∧∀(i:Nat)(v:Value)(a:AV),cs[i]? = some v→asv[i]? = some a→VR w M ι v a
theorem zpl{s:Nat}{ss:List Nat}{asv bs:List AV}{r:Bool}(h:zM (s::ss) asv bs=some r):(s=0∨s=1∨s=2)∧∃a as' b bs',asv=a::as'∧bs=b::bs':=by
 unfold zM at h;split at h
 · rename_i e;cases e
 · rename_i e;cases e;exact⟨.inl rfl,_,_,_,_,rfl,rfl⟩
 · rename_i e;cases e;exact⟨.inr (.inl rfl),_,_,_,_,rfl,rfl⟩
 · rename_i e;cases e;exact⟨.inr (.inr rfl),_,_,_,_,rfl,rfl⟩
 · cases h
theorem zqI:∀{ss:List Nat}{asv bs:List AV}{r:Bool},zM ss asv bs=some r→asv.length=ss.length∧bs.length=ss.length:=by
 intro ss
 induction ss with
 |
  nil =>
  intro asv bs r h
  cases asv<;>cases bs<;>simp_all [zM]
 |
  cons s ss ih =>
  intro asv bs r h;obtain⟨hs,a,as',b,bs',rfl,rfl⟩:=zpl h
  rcases hs with rfl|rfl|rfl
  · obtain⟨k,x,y,t',rfl,rfl,h1,rfl⟩:=zk7 h;have:=ih h1;simp[this.1,this.2]
  · obtain⟨x,y,t',rfl,rfl,h1,rfl⟩:=zk4 h;have:=ih h1;simp[this.1,this.2]
  · obtain⟨x,y,t',rfl,rfl,h1,rfl⟩:=zjz h;have:=ih h1;simp[this.1,this.2]
theorem zwq:∀{s1 s2:List Nat}{asv bs:List AV}{r:Bool},zM (s1++s2) asv bs=some r →
  ∃r1 r2,zM s1 (asv.take s1.length) (bs.take s1.length)=some r1∧zM s2 (asv.drop s1.length) (bs.drop s1.length)=some r2∧r=(r1&&r2):=by
 intro s1
 induction s1 with
 |
  nil =>
  intro s2 asv bs r h;exact⟨true,r,by simp[zM],by simpa using h,by simp⟩
 |
  cons s s1 ih =>
  intro s2 asv bs r h;obtain⟨hs,a,as',b,bs',rfl,rfl⟩:=zpl h
  rcases hs with rfl|rfl|rfl
  · obtain⟨k,x,y,t',rfl,rfl,h1,rfl⟩:=zk7 h;obtain⟨r1,r2,h2,h3,rfl⟩:=ih h1;exact⟨decide (x=y)&&r1,r2,by simp[zM,h2],by simpa using h3,by simp[WS]⟩
  · obtain⟨x,y,t',rfl,rfl,h1,rfl⟩:=zk4 h;obtain⟨r1,r2,h2,h3,rfl⟩:=ih h1;exact⟨decide (x=y)&&r1,r2,by simp[zM,h2],by simpa using h3,by simp[WS]⟩
  · obtain⟨x,y,t',rfl,rfl,h1,rfl⟩:=zjz h;obtain⟨r1,r2,h2,h3,rfl⟩:=ih h1;exact⟨(x == y)&&r1,r2,by simp[zM,h2],by simpa using h3,by simp[WS]⟩
theorem zyr{t:TypeId}{s:Nat}(h:zpj P t=some s):∃d,P.underlying t=some d∧zdy d=false:=by
 unfold zpj at h
 split at h<;>first | (cases h;done)|skip
 · rename_i hu;exact⟨_,hu,rfl⟩
 · rename_i hu;exact⟨_,hu,rfl⟩
 · rename_i hu;exact⟨_,hu,rfl⟩
theorem znM:∀(d:Nat)(t:TypeId)(ss:List Nat),zsb P d t=some ss→∃dd,P.underlying t=some dd ∧
  ∀(n:Nat),d≤n→∀(x y:Value)(asv bs:List AV)(r:Bool),CV w M ι x asv (zdy dd)→CV w M ι y bs (zdy dd)→zM ss asv bs=some r→(Op.equalIn (n+1) t x y).run P w=.ok r w
 | 0,t,ss,h=>by cases h
 |
  d+1,t,ss,h=>by
  unfold zsb at h;split at h
  ·
   rename_i s hs;cases h;obtain⟨dd,hu,hrow⟩:=zyr hs;refine⟨dd,hu,fun n _ x y asv bs r hx hy he=>?_⟩;rw[hrow] at hx hy;obtain⟨a,rfl,hax⟩:=hx;obtain⟨b,rfl,hby⟩:=hy;unfold zpj at hs;split at hs
   · rename_i k hu;cases hs;obtain⟨k1,n1,n2,t',rfl,rfl,h3,rfl⟩:=zk7 he;cases hax;cases hby;simp[zM] at h3;subst h3;rw[WU];exact run_equalIn_int w n t k1 k n1 n2 hu
   · rename_i hu;cases hs;obtain⟨n1,n2,t',rfl,rfl,h3,rfl⟩:=zk4 he;cases hax;cases hby;simp[zM] at h3;subst h3;rw[run_equalIn_string w n t _ _ hu,zmf,WU]
   · rename_i hu;cases hs;obtain⟨n1,n2,t',rfl,rfl,h3,rfl⟩:=zjz he;cases hax;cases hby;simp[zM] at h3;subst h3;rw[WU];exact run_equalIn_bool' w n t _ _ hu
   · cases hs
  ·
   rename_i hs;split at h
   ·
    rename_i fs hu;split at h
    ·
     rename_i hst;refine⟨_,hu,fun n hn x y asv bs r hx hy he=>?_⟩;obtain⟨xs,rfl,hx1,hx2⟩:=hx;obtain⟨ys,rfl,hy1,hy2⟩:=hy;obtain⟨m,rfl⟩:∃m,n=m+1:=⟨n - 1,by omega⟩
     have hfo:P.fieldsOf t=fs:=by unfold Program.fieldsOf;rw[hu]
     rw[run_equalIn_struct w (m+1) t xs ys (by rw[hfo];exact hu) hst,hfo];exact znm (P:=P) (w:=w) m hx2 hy2 hx1 hy1 fs.toList 0 ss r h (by simpa using he)
    · cases h
   ·
    rename_i len e hu;split at h
    ·
     rename_i l i hl hi;split at h
     ·
      rename_i hsz;cases h;obtain⟨de,hue,ih⟩:=znM d e l hl;refine⟨_,hu,fun n hn x y asv bs r hx hy he=>?_⟩;obtain⟨xs,rfl,hx1,hx2⟩:=hx;obtain⟨ys,rfl,hy1,hy2⟩:=hy;obtain⟨m,rfl⟩:∃m,n=m+1:=⟨n - 1,by omega⟩
      have hc:P.cellsOf e=l.length:=by unfold Program.cellsOf;rw[hi];exact hsz
      rw[run_equalIn_array w (m+1) xs ys hu hi,hc]
      have part_ok:∀{zs:Array Value}{cs:List AV}(j:Nat),zs.size=cs.length→(∀(i:Nat)(v:Value)(a:AV),zs[i]? = some v→cs[i]? = some a→VR w M ι v a)→j * l.length+l.length≤cs.length →
        ∃v,(part e zs (j * l.length)).run P w=.ok v w∧CV w M ι v ((cs.drop (j * l.length)).take l.length) (zdy de):=by
       intro zs cs j hz1 hz2 hle
       cases hr:zdy de with
       |
        true =>
        refine⟨.agg (zs.extract (j * l.length) (j * l.length+l.length)),?_,zs.extract (j * l.length) (j * l.length+l.length),rfl,by simp;omega,fun q v a hq ha=>?_⟩
        · simp[part,Sem.run_bind,zgb hue,hr,sizeOf,typeInfo,hi,hsz]
        ·
         have hlt:q < l.length:=by have:=(Wr.1 hq).1;simp at this;omega
         rw[ziT _ _ _ _ (by omega) (by omega)] at hq;rw[Wac,if_pos hlt,Wad] at ha;exact hz2 _ _ _ hq ha
       |
        false =>
        have h1:l.length=1:=by
         obtain⟨d',rfl⟩:∃d',d=d'+1:=by
          cases d with
          | zero=>cases hl
          | succ d'=>exact⟨d',rfl⟩
         unfold zsb at hl;split at hl
         · cases hl;rfl
         ·
          rw[hue] at hl
          cases de<;>first | (cases hr;done) | (cases hl;done)
        have hlt:j * l.length < zs.size:=by omega
        have ha:cs[j * l.length]? = some cs[j * l.length]:=Wn (by omega);refine⟨zs[j * l.length],?_,cs[j * l.length],?_,hz2 _ _ _ (Wm hlt) ha⟩
        · simp[part,Sem.run_bind,zgb hue,hr,hlt]
        ·
         have htake:∀(x:AV)(r:List AV)(n:Nat),n=1→(x::r).take n=[x]:=fun x r n hn=>by subst hn;rfl
         rw[WN (show j * l.length < cs.length by omega)];exact htake _ _ _ h1
      have go:∀(k j:Nat)(r:Bool),zM (List.replicate k l).flatten (asv.drop (j * l.length)) (bs.drop (j * l.length))=some r→(Op.eqItems (m+1) e l.length xs ys (List.range' j k)).run P w=.ok r w:=by
       intro k
       induction k with
       |
        zero =>
        intro j r h;have:=zqI h;simp at this;have e1:asv.drop (j * l.length)=[]:=WD (by simp;omega);have e2:bs.drop (j * l.length)=[]:=WD (by simp;omega);rw[e1,e2] at h;simp[zM] at h;subst h;simp[Op.eqItems]
       |
        succ k ihk =>
        intro j r h;have hlen:=zqI h;rw[List.replicate_succ,List.flatten_cons] at h hlen;rw[WG,WV,WV] at hlen;obtain⟨r1,r2,h1,h2,rfl⟩:=zwq h;rw[List.drop_drop,List.drop_drop,show j * l.length+l.length=(j+1) * l.length by rw[Wh];omega] at h2
        have hpos:j * l.length+l.length≤asv.length∧j * l.length+l.length≤bs.length:=by
         rcases Wae l.length with hz|hz
         · rw[hz];simp
         · omega
        obtain⟨v1,p1,c1⟩:=part_ok j hx1 hx2 hpos.1;obtain⟨v2,p2,c2⟩:=part_ok j hy1 hy2 hpos.2;have heq:=ih m (by omega) v1 v2 _ _ r1 c1 c2 h1;have hrest:=ihk (j+1) r2 h2;rw[List.range'_succ];simp only[Op.eqItems,Sem.run_bind,p1,p2,Result.andThen_ok,heq];cases r1
        · simp
        · simpa using hrest
      have:=go len 0 r (by simpa using he);rw[List.range_eq_range'];exact this
     · cases h
    · cases h
   · cases h
theorem zA5 {t e:TypeId} {len:Nat} {ss:List Nat} {neg:Bool} {x y:Operand} {xv yv:Value} {a b:AV} (hu:P.underlying t=some (.array len e)) (hf:zsb P 5 t=some ss) (hgt:P.eqGuardType P.depth t=false)
  (hx:VR w (Lt L ι H) ι xv a) (hy:VR w (Lt L ι H) ι yv b) (hs:(eqsR neg ss a b H nx).side) :
  zaT P w L ι H nx (do eqGuard (bif neg then .neq else .eql) t x y xv yv;binOp (bif neg then .neq else .eql) t xv yv) (eqsR neg ss a b H nx):=by
 cases hx with
 |
  agg _ cs asv hsz h1 hv =>
  cases hy with
  |
   agg _ ds bs hsz2 h2 hv2 =>
   unfold eqsR at hs ⊢;simp only at hs ⊢
   cases he:zM ss asv bs with
   | none=>simp[he,bad] at hs
   |
    some r =>
    simp only[he] at hs ⊢;obtain⟨dd,hu2,key⟩:=znM (P:=P) (w:=w) (M:=Lt L ι H) (ι:=ι) 5 t ss hf;rw[hu] at hu2;cases hu2;have hrun:(Op.equal t (.agg cs) (.agg ds)).run P w=.ok r w:=key 9999 (by omega) _ _ asv bs r ⟨cs,rfl,hsz,hv⟩ ⟨ds,rfl,hsz2,hv2⟩ he
    have hg:=fun(op:BinOp)=>run_eqGuard_agg (P:=P) w op t x y cs ds hgt
    cases neg
    · refine⟨.bool r,?_,.bool _ _,rfl,rfl,trivial⟩;simp[Sem.run_bind,hg,binOp,hrun]
    · refine⟨.bool (!r),?_,.bool _ _,rfl,rfl,trivial⟩;simp[Sem.run_bind,hg,binOp,hrun]
  | _=>simp[eqsR,bad] at hs
 | _=>cases b<;>simp[eqsR,bad] at hs
end
section
variable {P:Program} {w:World} {L:Nat→Prop} {ι:Inj} {H:AH} {nx:Nat} {M:Nat→Prop}
theorem zDp{t e ty:TypeId}{xv:Value}{x:AV}(hu:P.underlying t=some (.slice e))(hx:VR w (Lt L ι H) ι xv x)(hs:(zvV x H nx).side):zaT P w L ι H nx (Builtin.cap_ #[t] ty #[xv]) (zvV x H nx):=by
 cases hx with
 | nilsl _=>exact⟨.int .i64 0,by simp[Builtin.cap_,run_underlying hu,goInt],.int _ _ _ (by unfold InR;decide),rfl,rfl,trivial⟩
 | _=>simp[zvV,bad] at hs
theorem zEA {t tn e ty:TypeId} {kq:IntKind} {i:TypeInfo} {z:List AV} {xv kv:Value} {x k:AV} (rel:RelH w L ι H nx) (hu:P.underlying t=some (.slice e)) (hn:P.underlying tn=some (.int kq)) (hi:P.info? e=some i) (hz:zhq P e=some z)
  (hx:VR w (Lt L ι H) ι xv x) (hk:VR w (Lt L ι H) ι kv k) (hs:(apzR i.size i.bytes z x k H nx).side):zgi P w L ι H nx (Builtin.append_ #[t,tn] ty #[xv,kv]) (apzR i.size i.bytes z x k H nx):=by
 obtain⟨i',zv,hi',hzv,hsz,hzl,hcr⟩:=zg0 hz;rw[hi] at hi';cases hi'
 cases hx with
 |
  nilsl _ =>
  cases hk with
  |
   int _ kn n hin =>
   simp only[apzR] at hs ⊢;obtain⟨h0,hb,hpos,hby⟩:=hs
   have hnb:n≤140737488355328:=by have:n * (1:Int)≤n * i.bytes:=Int.mul_le_mul_of_nonneg_left (by omega) h0;omega
   rcases Int.lt_or_eq_of_le h0 with hp|hp
   ·
    obtain⟨m,rfl⟩:∃m:Nat,n=m:=⟨n.toNat,by omega⟩;simp only[Int.toNat_natCast]
    have hmb:m * i.bytes≤140737488355328:=by
     have:((m * i.bytes:Nat):Int)≤140737488355328:=by rw[Int.natCast_mul];exact hb
     omega
    have hm:m≤maxLen:=by unfold maxLen;omega
    have hrun:=Go.Lib.run_append_nil_zeros (P:=P) w t tn ty e i zv kn kq hu hn hi hzv m (by omega) hpos (by omega) (by omega);have hge:=grownCap_ge w m 0 e;have hgm:=grownCap_le_maxLen w m 0 e hm;have hfr:=FR.zeros (n:=m) (hcr w (Lt L ι H) ι) hzl hpos
    have hsz':zv.cells.size=i.size:=by rw[hsz]
    have hsize:(Builtin.zeroCells zv.cells m++Builtin.zeroCells zv.cells (grownCap w m 0 e - m)).size=grownCap w m 0 e * i.size:=by
     rw[Waf,size_zeroCells,size_zeroCells,hsz',←Wh]
     congr 1
     omega
    have c1:Chg w ι H nx 0 0 ⟨w.heap.size,0,grownCap w m 0 e,i.size⟩ (w.drew.alloc (.cells (Builtin.zeroCells zv.cells m++Builtin.zeroCells zv.cells (grownCap w m 0 e - m)) e)) :=
     ⟨rfl,rfl,rfl,by simp,fun b hb _=>Below.heap_alloc w.drew _ b hb,fun _=>.inr (Wf _),fun l0 h0=>(by rw[rel.freshI] at h0;cases h0),fun g2 l2 h2=>(by rw[rel.freshI] at h2;cases h2)⟩
    refine⟨_,_,_,hrun,c1.step (rel.sok i.size) rel (Wo _) (Wp _) (.mk' rfl (by rw[List.length_replicate];exact hge) hgm (fun k hk=>?_) (fun _=>FzOk.new) hfr.wide (fun k c j a hk hj=>?_)),?_,trivial⟩
    · simp only[Wv];have e1:=World.cell?_alloc_new w.drew (Builtin.zeroCells zv.cells m++Builtin.zeroCells zv.cells (grownCap w m 0 e - m)) e k;have e2:=World.frozen?_alloc_new w.drew (Builtin.zeroCells zv.cells m++Builtin.zeroCells zv.cells (grownCap w m 0 e - m)) e k;have e1':(w.drew.alloc (.cells (Builtin.zeroCells zv.cells m++Builtin.zeroCells zv.cells (grownCap w m 0 e - m)) e)).cell? ⟨w.heap.size,k,none⟩=_:=e1;have e2':(w.drew.alloc (.cells (Builtin.zeroCells zv.cells m++Builtin.zeroCells zv.cells (grownCap w m 0 e - m)) e)).frozen? ⟨w.heap.size,k,none⟩=_:=e2;rw[e1',e2'];refine⟨?_,rfl⟩;rw[Wm (by rw[hsize];exact hk)];rfl
    ·
     obtain⟨v,h1,h2,h3⟩:=hfr.rel k c j a hk hj;refine⟨v,?_,h2,c1.vr (rel.sok i.size) rel h3⟩;simp only[Wv];have e1':(w.drew.alloc (.cells (Builtin.zeroCells zv.cells m++Builtin.zeroCells zv.cells (grownCap w m 0 e - m)) e)).cell? ⟨w.heap.size,k * i.size+j,none⟩=_:=World.cell?_alloc_new w.drew _ _ _
     have h1':(Builtin.zeroCells zv.cells m)[k * i.size+j]? = some v:=by unfold Builtin.zeroCells;rw[hsz'];rw[hsz'] at h1;exact h1
     rw[e1',WM (Wr.1 h1').1];exact h1'
    · exact .own _ nx 0 0 0 m _ _ _ (Inj.put_same _ _ _ _ _) hgm hge (by simp) (fun _=>by simp)
   ·
    subst hp;have c1:Chg w ι H nx 0 0 ⟨0,0,0,i.size⟩ w:=⟨rfl,rfl,rfl,Wf _,fun _ _ _=>rfl,fun h=>by simp at h,fun l0 h0=>(by rw[rel.freshI] at h0;cases h0),fun g2 l2 h2=>(by rw[rel.freshI] at h2;cases h2)⟩;refine⟨.slice none 0 0,w,_,?_,c1.step (rel.sok i.size) rel (Wo _) (Wp _) (.mk' rfl (Wf _) (Wl _) (fun k hk=>by simp at hk) (fun h=>by simp at h) (fun k c' hk=>by simp at hk) (fun k c' j a hk _=>by simp at hk)),?_,trivial⟩
    ·
     have hw0:IntKind.i64.wrap (0:Int)=0:=by rw[IntKind.wrap_i64];omega
     simp[Builtin.append_,run_underlying hu,run_underlying hn,sizeOf,typeInfo,zeroValue,hi,hzv,asInt,asIntOf,hw0]
    · exact .own _ nx 0 0 0 0 _ 0 _ (Inj.put_same _ _ _ _ _) (Wl _) (Wf _) (Wf _) (fun h=>by omega)
  | _=>simp[apzR,bad] at hs
 | _=>cases k<;>simp[apzR,bad] at hs
end
def zmS(w:World)(L:Nat→Prop)(ι:Inj)(H:AH)(nx:Nat)(res:Result Next)(r:ORes)(pure:Bool):Prop :=
 ∃n v w' ι',res=.ok n w'∧(n=.value v∨(n=.skip∧v=undef))∧Step w L ι H nx w' ι' r.H r.nx∧VR w' (Lt L ι' r.H) ι' v r.v∧r.fact ∧
  (pure=true→w'=w∧ι'=ι∧r.H=H∧r.nx=nx)
section
variable {P:Program} {w:World} {L:Nat→Prop} {ι:Inj} {H:AH} {nx:Nat} {M:Nat→Prop}
theorem zBo{s:Sem Value}{v:Value}{w':World}(h:s.run P w=.ok v w'):(do pure (Next.value (←s)):Sem Next).run P w=.ok (.value v) w':=by simp[Sem.run_bind,h]
theorem zFa{s:Sem Unit}{w':World}(h:s.run P w=.ok () w'):(do s;pure Next.skip:Sem Next).run P w=.ok .skip w':=by simp[Sem.run_bind,h]
theorem zaT.done{s:Sem Value}{r:ORes}{pure:Bool}(rel:RelH w L ι H nx)(h:zaT P w L ι H nx s r):zmS w L ι H nx ((do Pure.pure (Next.value (←s)):Sem Next).run P w) r pure:=by
 obtain⟨v,h1,h2,h3,h4,h5⟩:=h;refine⟨_,v,w,ι,zBo h1,.inl rfl,?_,?_,h5,fun _=>⟨rfl,rfl,h3,h4⟩⟩
 · rw[h3,h4];exact .refl rel
 · rw[h3];exact h2
theorem zgi.done{s:Sem Value}{r:ORes}(h:zgi P w L ι H nx s r):zmS w L ι H nx ((do Pure.pure (Next.value (←s)):Sem Next).run P w) r false:=by obtain⟨v,w',ι',h1,h2,h3,h4⟩:=h;exact⟨_,v,w',ι',zBo h1,.inl rfl,h2,h3,h4,fun h=>by cases h⟩
theorem zit{a:Act}{K:Nat→AV}(hk:KOk w M ι a.tmps K):∀ {ps:List (Nat × Operand)} {qs:List (Nat × AOpd)},(ps.mapM fun p=>do some (p.1,(←copd p.2)))=some qs →
  EL w M ι (ps.map fun p=>(p.1,a.eval p.2)) (zkh K qs)
 | [],qs,h=>by simp at h;subst h;exact .nil
 |
  p::ps,qs,h=>by
  simp only[WH,Wc,WW,Wa,Wd] at h;obtain⟨b,⟨c,hc,rfl⟩,bs,hbs,rfl⟩:=h;exact .cons (zp hk hc) (zit hk hbs)
theorem zlh {a:Act} {K:Nat→AV} (hk:KOk w M ι a.tmps K) {fs:Array Field} {place:Nat→Option (Nat × Nat)}
  (hpl:∀(i:Nat)(f:Field)(inf:TypeInfo),fs[i]? = some f→P.info? f.type=some inf→place i=some (f.offset,inf.size)) :
  ∀ {ps:List (Nat × Operand)} {qs:List (Nat × Nat × AOpd)},(ps.mapM fun p=>do
    let f ←fs[p.1]?
    let i ←P.info? f.type
    some (f.offset,i.size,(←copd p.2)))=some qs →
  PL w M ι place (ps.map fun p=>(p.1,a.eval p.2)) (ze7 K qs)
 | [],qs,h=>by simp at h;subst h;exact .nil
 |
  p::ps,qs,h=>by
  simp only[WH,Wc,WW,Wa,Wd] at h;obtain⟨b,⟨f,hf,i,hi,c,hc,rfl⟩,bs,hbs,rfl⟩:=h;exact .cons (hpl _ _ _ hf hi) (zp hk hc) (zlh hk hpl hbs)
theorem zyl{t:TypeId}{i:TypeInfo}(hi:P.info? t=some i)(w:World):(sizeOf t).run P w=.ok i.size w:=by simp[sizeOf,typeInfo,hi]
theorem zr5(P:Program):∀(fs:List Field),(∀f∈fs,(P.info? f.type).isSome=true)→∀w:World,
  (fs.mapM (m:=Sem) fun(f:Field)=>do pure (f.offset,←sizeOf f.type)).run P w=.ok (fs.map fun f=>(f.offset,((P.info? f.type).map (·.size)).getD 0)) w
 | [],_,w=>by simp
 |
  f::fs,h,w=>by
  have ih:=zr5 P fs (fun g hg=>h g (List.mem_cons_of_mem _ hg)) w;obtain⟨i,hi⟩:=W0.1 (h f (by simp));simp only[WH,Sem.run_bind,zyl hi,Result.andThen_ok,Sem.run_pure,WL,hi,WE,WP,ih]
theorem zvM(P:Program)(fs:Array Field)(h:fs.toList.all (fun f=>(P.info? f.type).isSome)=true)(w:World):
  (fs.mapM (m:=Sem) fun(f:Field)=>do pure (f.offset,←sizeOf f.type)).run P w=.ok (fs.toList.map fun f=>(f.offset,((P.info? f.type).map (·.size)).getD 0)).toArray w:=by
 rw[Array.mapM_eq_mapM_toList,Sem.run_map,zr5 P fs.toList (fun f hf=>List.all_eq_true.1 h f hf) w];rfl
theorem zDS{a:Act}{K:Nat→AV}(hk:KOk w M ι a.tmps K){x:Option Operand}{y:Option AOpd}(h:zFh x=some y):VRO w M ι (x.map a.eval) (evO K y):=by
 cases x with
 | none=>cases h;exact .none
 |
  some x =>
  obtain⟨c,hc,rfl⟩:=We.1 h;exact .some (zp hk hc)
def AOp.isCall:AOp→Bool
 | .call .. | .callq .. | .callv .. | .isnil .. | .mnext .. | .append2 ..=>true
 | _=>false
theorem zED{o:Oper}{ao:AOp}(h:cop0 P o=some ao)(hcall:ao.isCall=false){a:Act}{K:Nat→AV}(rel:RelH w L ι H nx)(hk:KOk w (Lt L ι H) ι a.tmps K)(hs:(aop ao K H nx).side):
  zmS w L ι H nx ((execOp a.eval o).run P w) (aop ao K H nx) ao.pure:=by
 have mov:∀x:Operand,o.op=.move x∨o.op=.assign x→(match x with
   |
    .const (.slice none 0 0)=>match P.underlying o.type with
    |
     some (.slice e)=>match P.info? e with
     | some i=>if 0 < i.size then some (AOp.mknil i.size) else none
     | none=>none
    | _=>none
   | _=>(copd x).map .mov)=some ao→zmS w L ι H nx (.ok (.value (a.eval x)) w) (aop ao K H nx) ao.pure:=by
  intro x _ hx;split at hx
  ·
   split at hx
   ·
    split at hx
    ·
     split at hx
     · rename_i i hi hpos;cases hx;refine⟨_,_,w,_,rfl,.inl rfl,Step.phantom rel i.size,?_,trivial,fun h=>by cases h⟩;exact .own _ nx 0 0 0 0 _ 0 _ (Inj.put_same _ _ _ _ _) (Wl _) (Wf _) (Wf _) (fun h=>absurd h (Nat.lt_irrefl 0))
     · cases hx
    · cases hx
   · cases hx
  · obtain⟨c,hc,rfl⟩:=We.1 hx;exact⟨_,_,w,ι,rfl,.inl rfl,.refl rel,zp hk hc,trivial,fun _=>⟨rfl,rfl,rfl,rfl⟩⟩
 unfold cop0 at h;unfold execOp
 cases hop:o.op with
 | move x=>rw[hop] at h;exact mov x (.inl hop) h
 | assign x=>rw[hop] at h;exact mov x (.inr hop) h
 |
  pick c x y =>
  rw[hop] at h;simp only[Wc,Wa,Wd] at h;obtain⟨c',hc,x',hx,y',hy,rfl⟩:=h;have:=(zCC (P:=P) (zp hk hc) (zp hk hx) (zp hk hy) hs).done (pure:=true) rel;simp[Sem.run_bind] at this ⊢;exact this
 |
  alloc e =>
  rw[hop] at h;obtain⟨z,hz,rfl⟩:=We.1 h;exact(zAB rel hz).done
 |
  box e x =>
  rw[hop] at h;obtain⟨x',hx,rfl⟩:=We.1 h;exact(zFe rel (zp hk hx) hs).done
 |
  load t x =>
  rw[hop] at h;simp only at h;split at h
  ·
   rename_i d i hu hi;split at h
   ·
    rename_i hd;obtain⟨x',hx,rfl⟩:=We.1 h
    have hs':(zfo (zdy d) i.size (ev K x') H nx).side:=by rw[hd];exact hs
    have:zaT P w L ι H nx (Instr.loadAt t (a.eval x)) (zfo (zdy d) i.size (ev K x') H nx):=zsM hu hi rel (zp hk hx) (by rw[if_pos hd]) hs';rw[hd] at this;exact this.done rel
   ·
    rename_i hd
    have hd':zdy d=false:=by simpa using hd
    obtain⟨x',hx,rfl⟩:=We.1 h
    have hs':(zfo (zdy d) 1 (ev K x') H nx).side:=by rw[hd'];exact hs
    have:zaT P w L ι H nx (Instr.loadAt t (a.eval x)) (zfo (zdy d) 1 (ev K x') H nx):=zsM hu hi rel (zp hk hx) (by rw[if_neg hd]) hs';rw[hd'] at this;exact this.done rel
  · cases h
 |
  store t x y =>
  rw[hop] at h;simp only at h;split at h
  · rename_i i hi;simp only[Wc,Wa,Wd] at h;obtain⟨x',hx,y',hy,rfl⟩:=h;obtain⟨w',ι',h1,h2,h3,h4⟩:=zzp rel hi (zp hk hx) (zp hk hy) hs;exact⟨_,undef,w',ι',zFa h1,.inr ⟨rfl,rfl⟩,h2,by rw[show (aop (.store i.size x' y') K H nx).v=.undef from h4];exact .undef _ _,h3,fun h=>by cases h⟩
  · cases h
 |
  build t parts =>
  rw[hop] at h;simp only at h;split at h
  ·
   rename_i fs z hu hz;split at h
   ·
    rename_i hall;simp only[Wc,Wa,Wd] at h;obtain⟨ps,hps,rfl⟩:=h
    have hpl:=zlh (P:=P) hk (fs:=fs) (place:=fun i=>(fs.toList.map fun f=>(f.offset,((P.info? f.type).map (·.size)).getD 0)).toArray[i]?) (fun i f inf hf hi=>by
     rw[WA,WB,Wk,hf]
     simp[hi]) (by simpa using hps)
    have hmap:(parts.map fun(p:Nat × Operand)=>(p.1,a.eval p.2)).toList=parts.toList.map fun p=>(p.1,a.eval p.2):=by simp
    have:=zzF (P:=P) (parts:=parts.map fun(p:Nat × Operand)=>(p.1,a.eval p.2)) hu hz (fun w=>zvM P fs hall w) (by rw[hmap];exact hpl) hs;exact this.done rel
   · cases h
  · cases h
 |
  buildSlice t len parts =>
  rw[hop] at h;simp only at h;split at h
  ·
   rename_i e hu;split at h
   ·
    rename_i i z hi hz;split at h
    ·
     rename_i hc;simp only[Wc,Wa,Wd] at h;obtain⟨ps,hps,rfl⟩:=h;have hel:=zit hk (by simpa using hps)
     have hmap:(parts.map fun(p:Nat × Operand)=>(p.1,a.eval p.2)).toList=parts.toList.map fun p=>(p.1,a.eval p.2):=by simp
     have:=zv3 (P:=P) (parts:=parts.map fun(p:Nat × Operand)=>(p.1,a.eval p.2)) rel hu hi hz hc.1 hc.2 (by rw[hmap];exact hel) hs;exact this.done
    · cases h
   · cases h
  · cases h
 |
  binOp op t x y yt =>
  rw[hop] at h;simp only at h;split at h
  · simp only[Wc,Wa,Wd] at h;obtain⟨x',hx,y',hy,rfl⟩:=h;exact(zEW (P:=P) (zp hk hx) (zp hk hy) hs).done rel
  ·
   rename_i hu;split at h
   · simp only[Wc,Wa,Wd] at h;obtain⟨x',hx,y',hy,rfl⟩:=h;exact(zD1 (P:=P) (neg:=false) hu (zp hk hx) (zp hk hy) hs).done rel
   · simp only[Wc,Wa,Wd] at h;obtain⟨x',hx,y',hy,rfl⟩:=h;exact(zD1 (P:=P) (neg:=true) hu (zp hk hx) (zp hk hy) hs).done rel
   · cases h
  ·
   exfalso
   (repeat' split at h)<;>first | (cases h;done) | (obtain⟨_,_,rfl⟩:=We.1 h;cases hcall)
  ·
   exfalso
   (repeat' split at h)<;>first | (cases h;done) | (obtain⟨_,_,rfl⟩:=We.1 h;cases hcall)
  · cases h
 |
  unOp op t x =>
  rw[hop] at h;obtain⟨x',hx,rfl⟩:=We.1 h;exact(unR_ok (P:=P) (zp hk hx) hs).done rel
 |
  convert s d x =>
  rw[hop] at h;simp only at h;split at h
  · rename_i k' k h1 h2;obtain⟨x',hx,rfl⟩:=We.1 h;exact(zBU (P:=P) h1 h2 (zp hk hx) hs).done rel
  · cases h
 |
  makeFunc fn first caps =>
  rw[hop] at h;simp only at h;split at h
  ·
   rename_i hf;obtain⟨cs,hcs,rfl⟩:=We.1 h;have hvs:=zmd hk hcs;have hfe:first=#[]:=Array.eq_empty_of_size_eq_zero hf;subst hfe;refine⟨_,.func fn #[] (caps.map a.eval),w,ι,?_,.inl rfl,.refl rel,?_,trivial,fun _=>⟨rfl,rfl,rfl,rfl⟩⟩
   · simp[Instr.makeFunc,Sem.run_bind]
   ·
    refine .fn _ _ _ _ ?_ (fun i v b h1 h2=>hvs.get i v b ?_ h2)
    · rw[Array.size_map,←hvs.length];simp
    · rw[←h1,←Wk,W3]
  · cases h
 |
  makeSlice t l c =>
  rw[hop] at h;simp only at h;split at h
  ·
   rename_i e hu;split at h
   ·
    rename_i i z hi hz;split at h
    · rename_i hpos;simp only[Wc,Wa,Wd] at h;obtain⟨l',hl,c',hc,rfl⟩:=h;exact(zDR (P:=P) rel hu hi hz hpos (zp hk hl) (zp hk hc) hs).done
    · cases h
   · cases h
  · cases h
 |
  slice t x lo hi mx =>
  rw[hop] at h;simp only at h;split at h
  ·
   rename_i e hu;split at h
   ·
    rename_i i hinf;split at h
    ·
     simp only[Wc,Wa] at h;obtain⟨x',hx,l',hl,h',hh,h⟩:=h;split at h
     · cases h;have:=zAS (P:=P) rel hu hinf (zp hk hx) (zDS hk hl) (zDS hk hh) hs;exact this.done rel
     · cases h
    ·
     split at h
     · obtain⟨x',hx,rfl⟩:=We.1 h;have:=zFl (P:=P) hu hinf (zp hk hx) hs;exact this.done rel
     · cases h
    · cases h
   · cases h
  · cases h
 |
  fieldAddr s x f =>
  rw[hop] at h;simp only at h;split at h
  ·
   rename_i fs hu;simp only[Wc,Wa] at h;obtain⟨fd,hf,i,hi,h⟩:=h;split at h
   · rename_i hpos;obtain⟨x',hx,h⟩:=Wa.1 h;cases h;exact(zwG (P:=P) hu hf hi hpos (zp hk hx) hs).done rel
   · cases h
  · cases h
 |
  field s x f =>
  rw[hop] at h;simp only at h;split at h
  ·
   rename_i fs hu;simp only[Wc,Wa] at h;obtain⟨fd,hf,i,hi,d,hd,h⟩:=h;split at h
   ·
    rename_i hr;obtain⟨x',hx,h⟩:=Wa.1 h;cases h
    have hs':(fldR fd.offset i.size (zdy d) (ev K x') H nx).side:=by rw[hr];exact hs
    have:=zBN (P:=P) hu hf hi hd (zp hk hx) (by rw[if_pos hr]) hs';rw[hr] at this;exact this.done rel
   ·
    rename_i hr
    have hr':zdy d=false:=by simpa using hr
    obtain⟨x',hx,h⟩:=Wa.1 h;cases h
    have hs':(fldR fd.offset 1 (zdy d) (ev K x') H nx).side:=by rw[hr'];exact hs
    have:=zBN (P:=P) hu hf hi hd (zp hk hx) (by rw[if_neg hr]) hs';rw[hr'] at this;exact this.done rel
  · cases h
 |
  indexAddr t x i =>
  rw[hop] at h;simp only at h;split at h
  ·
   rename_i e hu;split at h
   ·
    rename_i inf hi;split at h
    · rename_i hpos;simp only[Wc,Wa,Wd] at h;obtain⟨x',hx,i',hi',rfl⟩:=h;exact(zE8 (P:=P) hu hi hpos rel (zp hk hx) (zp hk hi') hs).done rel
    · cases h
   · cases h
  · cases h
 |
  extract x i =>
  rw[hop] at h;obtain⟨x',hx,rfl⟩:=We.1 h;exact(zFg (P:=P) (zp hk hx) hs).done rel
 |
  call c =>
  rw[hop] at h;simp only at h;split at h
  ·
   rename_i b hb
   have hrun:∀(s:Sem Value)(bb:Bool),(∀w:World,(do let d ←resolve a.eval c o.type;invoke d.target d.args:Sem Next).run P w=(do Pure.pure (Next.value (←s)):Sem Next).run P w) →
     (∀r,zmS w L ι H nx ((do Pure.pure (Next.value (←s)):Sem Next).run P w) r bb→zmS w L ι H nx ((do let d ←resolve a.eval c o.type;invoke d.target d.args:Sem Next).run P w) r bb):=by
    intro s bb he r hd;rw[he];exact hd
   unfold zfS at h;split at h
   ·
    rename_i t x ht hx
    have hat:c.argTypes=#[t]:=by rw[←Wg (xs:=c.argTypes),ht]
    have hax:c.args=#[x]:=by rw[←Wg (xs:=c.args),hx]
    split at h
    · rename_i e hu;obtain⟨x',hx',rfl⟩:=We.1 h;exact hrun (Builtin.len_ #[t] o.type #[a.eval x]) true (fun w=>by simp[resolve,hb,hat,hax,invoke,builtin]) _ ((zEQ (P:=P) hu (zp hk hx') hs).done rel)
    · rename_i hu;obtain⟨x',hx',rfl⟩:=We.1 h;exact hrun (Builtin.len_ #[t] o.type #[a.eval x]) true (fun w=>by simp[resolve,hb,hat,hax,invoke,builtin]) _ ((zB0 (P:=P) hu (zp hk hx') hs).done rel)
    · cases h
   ·
    rename_i t u x y ht hx
    have hat:c.argTypes=#[t,u]:=by rw[←Wg (xs:=c.argTypes),ht]
    have hax:c.args=#[x,y]:=by rw[←Wg (xs:=c.args),hx]
    split at h
    ·
     rename_i e e' hu hu';split at h
     ·
      rename_i i z hi hz;split at h
      · rename_i hc;simp only[Wc,Wa,Wd] at h;obtain⟨x',hx',y',hy',rfl⟩:=h;exact hrun (Builtin.append_ #[t,u] o.type #[a.eval x,a.eval y]) false (fun w=>by simp[resolve,hb,hat,hax,invoke,builtin]) _ (zyP (P:=P) rel hu hu' hi hz hc.2.1 hc.2.2 (zp hk hx') (zp hk hy') hs).done
      · cases h
     · cases h
    · cases h
   ·
    rename_i t x ht hx
    have hat:c.argTypes=#[t]:=by rw[←Wg (xs:=c.argTypes),ht]
    have hax:c.args=#[x]:=by rw[←Wg (xs:=c.args),hx]
    split at h
    ·
     rename_i e hu;split at h
     ·
      rename_i i z hi hz;split at h
      · rename_i hpos;obtain⟨x',hx',h⟩:=Wa.1 h;cases h;exact hrun (Builtin.clear_ #[t] o.type #[a.eval x]) false (fun w=>by simp[resolve,hb,hat,hax,invoke,builtin]) _ (zAn (P:=P) rel hu hi hz hpos (zp hk hx') hs).done
      · cases h
     · cases h
    · cases h
   · cases h
  ·
   split at h
   ·
    split at h
    · obtain⟨x',hx',rfl⟩:=We.1 h;cases hcall
    · cases h
   · cases h
  · obtain⟨x',hx',rfl⟩:=We.1 h;cases hcall
  · cases h
 | _=>rw[hop] at h;cases h
theorem zBh{xv:Value}{x:AV}(rel:RelH w L ι H nx)(hx:VR w (Lt L ι H) ι xv x)(hs:(zm2 x H nx).side):(∃ad,xv=.pointer (some ad))∧(zm2 x H nx).v=x∧(zm2 x H nx).H=H∧(zm2 x H nx).nx=nx∧(zm2 x H nx).fact:=by
 cases hx with
 | ptr=>exact⟨⟨_,rfl⟩,rfl,rfl,rfl,trivial⟩
 | iptr=>exact⟨⟨_,rfl⟩,rfl,rfl,rfl,trivial⟩
 | _=>simp[zm2,bad] at hs
theorem zE0{o:Oper}{x:XOp}{xs:List AOpd}(h:cxop P o=some (x,xs)){a:Act}{K:Nat→AV}(rel:RelH w L ι H nx)(hk:KOk w (Lt L ι H) ι a.tmps K)(hs:(xopR x (evs K xs) H nx).side):
  zmS w L ι H nx ((execOp a.eval o).run P w) (xopR x (evs K xs) H nx) x.pure:=by
 unfold cxop at h;unfold execOp
 cases hop:o.op with
 |
  nilCheck y =>
  rw[hop] at h;simp only[Wc,Wa,Wd,Wj] at h;obtain⟨y',hy,rfl,rfl⟩:=h;simp only[evs,xopR] at hs ⊢;have hv:=zp hk hy;obtain⟨⟨ad,had⟩,h1,h2,h3,h4⟩:=zBh rel hv hs;refine⟨_,a.eval y,w,ι,?_,.inl rfl,by rw[h2,h3];exact .refl rel,by rw[h1,h2];exact hv,h4,fun _=>⟨rfl,rfl,h2,h3⟩⟩;rw[had];rfl
 |
  convert s d y =>
  rw[hop] at h;simp only at h;split at h
  ·
   rename_i e e' hs1 hd1;split at h
   · rename_i hc;obtain⟨rfl,hb⟩:=hc;simp only[Wc,Wa,Wd,Wj] at h;obtain⟨y',hy,rfl,rfl⟩:=h;simp only[evs,xopR] at hs ⊢;exact(zBW rel hs1 hb (zp hk hy) hs).done
   · cases h
  ·
   rename_i e hs1 hd1;split at h
   · rename_i hb;simp only[Wc,Wa,Wd,Wj] at h;obtain⟨y',hy,rfl,rfl⟩:=h;simp only[evs,xopR] at hs ⊢;exact(zEj rel hs1 hd1 hb (zp hk hy) hs).done rel
   · cases h
  ·
   rename_i e hs1 hd1;split at h
   · rename_i hb;simp only[Wc,Wa,Wd,Wj] at h;obtain⟨y',hy,rfl,rfl⟩:=h;simp only[evs,xopR] at hs ⊢;exact(zFm rel hs1 hd1 hb (zp hk hy) hs).done
   · cases h
  · cases h
 |
  binOp op t y z yt =>
  rw[hop] at h;simp only at h;split at h
  ·
   split at h
   · simp only[Wc,Wa,Wd,Wj] at h;obtain⟨y',hy,z',hz,rfl,rfl⟩:=h;simp only[evs,xopR] at hs ⊢;exact(zA1 (P:=P) (neg:=false) (zp hk hy) (zp hk hz) hs).done rel
   · simp only[Wc,Wa,Wd,Wj] at h;obtain⟨y',hy,z',hz,rfl,rfl⟩:=h;simp only[evs,xopR] at hs ⊢;exact(zA1 (P:=P) (neg:=true) (zp hk hy) (zp hk hz) hs).done rel
   · cases h
  ·
   rename_i fs hu;split at h
   ·
    rename_i ss hf;split at h
    ·
     rename_i hg;split at h
     · simp only[Wc,Wa,Wd,Wj] at h;obtain⟨y',hy,z',hz,rfl,rfl⟩:=h;simp only[evs,xopR] at hs ⊢;exact(zAy (P:=P) (neg:=false) hu hf hg.1 hg.2 (zp hk hy) (zp hk hz) hs).done rel
     · simp only[Wc,Wa,Wd,Wj] at h;obtain⟨y',hy,z',hz,rfl,rfl⟩:=h;simp only[evs,xopR] at hs ⊢;exact(zAy (P:=P) (neg:=true) hu hf hg.1 hg.2 (zp hk hy) (zp hk hz) hs).done rel
     · cases h
    · cases h
   · cases h
  · cases h
 |
  index t y z =>
  rw[hop] at h;simp only at h;split at h
  · rename_i hu;simp only[Wc,Wa,Wd,Wj] at h;obtain⟨y',hy,z',hz,rfl,rfl⟩:=h;simp only[evs,xopR] at hs ⊢;exact(zCE (P:=P) hu (zp hk hy) (zp hk hz) hs).done rel
  · cases h
 |
  slice t y lo hi mx =>
  rw[hop] at h;simp only at h;split at h
  ·
   rename_i hi mx;split at h
   ·
    rename_i e hu;split at h
    ·
     rename_i i hinf;split at h
     · simp only[Wc,Wa,Wd,Wj] at h;obtain⟨y',hy,z',hz,z2,hz2,rfl,rfl⟩:=h;simp only[evs,xopR] at hs ⊢;exact(zFi (P:=P) rel hu hinf (zp hk hy) (zp hk hz) (zp hk hz2) hs).done rel
     · cases h
    · cases h
   · cases h
  · cases h
 |
  makeMap t r =>
  rw[hop] at h;simp only at h;split at h
  · cases h;simp only[evs,xopR] at hs ⊢;exact(zzz (P:=P) rel).done
  · cases h
 |
  lookup t y k ok =>
  rw[hop] at h;simp only at h;split at h
  ·
   rename_i kt et hu;split at h
   · rename_i str z hkk hz;simp only[Wc,Wa,Wd,Wj] at h;obtain⟨y',hy,k',hk',rfl,rfl⟩:=h;simp only[evs,xopR] at hs ⊢;exact(zz4 (P:=P) rel hu hkk hz (zp hk hy) (zp hk hk') hs).done rel
   · cases h
  · cases h
 |
  mapUpdate t m k v =>
  rw[hop] at h;simp only at h;split at h
  ·
   rename_i kt et hu;split at h
   · rename_i str hkk;simp only[Wc,Wa,Wd,Wj] at h;obtain⟨m',hm,k',hk',v',hv,rfl,rfl⟩:=h;simp only[evs,xopR] at hs ⊢;obtain⟨w',ι',h1,h2,h3,h4⟩:=zxF (P:=P) rel hu hkk (zp hk hm) (zp hk hk') (zp hk hv) hs;exact⟨_,undef,w',ι',zFa h1,.inr ⟨rfl,rfl⟩,h2,by rw[h4];exact .undef _ _,h3,fun h=>by cases h⟩
   · cases h
  · cases h
 |
  call c =>
  rw[hop] at h;simp only at h;split at h
  ·
   rename_i b hb;split at h
   ·
    rename_i t1 t2 y z ht hx
    have hat:c.argTypes=#[t1,t2]:=by rw[←Wg (xs:=c.argTypes),ht]
    have hax:c.args=#[y,z]:=by rw[←Wg (xs:=c.args),hx]
    simp only[Wc,Wa,Wd,Wj] at h;obtain⟨y',hy,z',hz,rfl,rfl⟩:=h;simp only[evs,xopR] at hs ⊢;have hd:=(zzK (P:=P) (mx:=false) (ts:=#[t1,t2]) (ty:=o.type) (zp hk hy) (zp hk hz) hs).done (pure:=true) rel
    have e:(do let d ←resolve a.eval c o.type;invoke d.target d.args:Sem Next).run P w=(do Pure.pure (Next.value (←Builtin.min_ #[t1,t2] o.type #[a.eval y,a.eval z])):Sem Next).run P w:=by simp[resolve,hb,hat,hax,invoke,builtin]
    rw[e];exact hd
   ·
    rename_i t1 t2 y z ht hx
    have hat:c.argTypes=#[t1,t2]:=by rw[←Wg (xs:=c.argTypes),ht]
    have hax:c.args=#[y,z]:=by rw[←Wg (xs:=c.args),hx]
    simp only[Wc,Wa,Wd,Wj] at h;obtain⟨y',hy,z',hz,rfl,rfl⟩:=h;simp only[evs,xopR] at hs ⊢;have hd:=(zzK (P:=P) (mx:=true) (ts:=#[t1,t2]) (ty:=o.type) (zp hk hy) (zp hk hz) hs).done (pure:=true) rel
    have e:(do let d ←resolve a.eval c o.type;invoke d.target d.args:Sem Next).run P w=(do Pure.pure (Next.value (←Builtin.max_ #[t1,t2] o.type #[a.eval y,a.eval z])):Sem Next).run P w:=by simp[resolve,hb,hat,hax,invoke,builtin]
    rw[e];exact hd
   ·
    rename_i t1 t2 y z ht hx
    have hat:c.argTypes=#[t1,t2]:=by rw[←Wg (xs:=c.argTypes),ht]
    have hax:c.args=#[y,z]:=by rw[←Wg (xs:=c.args),hx]
    split at h
    ·
     rename_i e hu hu2;split at h
     ·
      rename_i hby;simp only[Wc,Wa,Wd,Wj] at h;obtain⟨y',hy,z',hz,rfl,rfl⟩:=h;simp only[evs,xopR] at hs ⊢;have hd:=(zCc (P:=P) (ty:=o.type) rel hu hu2 hby (zp hk hy) (zp hk hz) hs).done
      have e:(do let d ←resolve a.eval c o.type;invoke d.target d.args:Sem Next).run P w=(do Pure.pure (Next.value (←Builtin.append_ #[t1,t2] o.type #[a.eval y,a.eval z])):Sem Next).run P w:=by simp[resolve,hb,hat,hax,invoke,builtin]
      rw[e];exact hd
     · cases h
    · cases h
   · cases h
  · cases h
 | _=>rw[hop] at h;cases h
theorem zj2{a:Act}{K:Nat→AV}(hk:KOk w M ι a.tmps K){n:Nat}:∀ {ps:List (Nat × Operand)} {qs:List (Nat × Nat × AOpd)},(ps.mapM fun p=>do some (p.1 * n,n,(←copd p.2)))=some qs →
  PL w M ι (fun j=>some (j * n,n)) (ps.map fun p=>(p.1,a.eval p.2)) (ze7 K qs)
 | [],qs,h=>by simp at h;subst h;exact .nil
 |
  p::ps,qs,h=>by
  simp only[WH,Wc,WW,Wa,Wd] at h;obtain⟨b,⟨c,hc,rfl⟩,bs,hbs,rfl⟩:=h;exact .cons rfl (zp hk hc) (zj2 hk hbs)
theorem zCf{o:Oper}{ao:AOp}(h:zyX P o=some ao)(hcall:ao.isCall=false){a:Act}{K:Nat→AV}(rel:RelH w L ι H nx)(hk:KOk w (Lt L ι H) ι a.tmps K)(hs:(aop ao K H nx).side):
  zmS w L ι H nx ((execOp a.eval o).run P w) (aop ao K H nx) ao.pure:=by
 unfold zyX at h;unfold execOp
 cases hop:o.op with
 |
  range t x =>
  rw[hop] at h;simp only at h;split at h
  · rename_i kt et hu;obtain⟨x',hx,rfl⟩:=We.1 h;exact(zyG (P:=P) rel hu (zp hk hx) hs).done
  · cases h
 |
  next x s =>
  rw[hop] at h;simp only at h;split at h
  · obtain⟨x',hx,rfl⟩:=We.1 h;cases hcall
  · cases h
 |
  entry x =>
  rw[hop] at h;simp only at h;obtain⟨x',hx,rfl⟩:=We.1 h;exact(zDz (P:=P) rel (zp hk hx) hs).done rel
 |
  insert t m k v =>
  rw[hop] at h;simp only at h;split at h
  ·
   rename_i kt et hu;split at h
   · rename_i str hkk;simp only[Wc,Wa,Wd] at h;obtain⟨m',hm,k',hk',v',hv,rfl⟩:=h;obtain⟨w',ι',h1,h2,h3,h4⟩:=zxF (P:=P) rel hu hkk (zp hk hm) (zp hk hk') (zp hk hv) hs;exact⟨_,undef,w',ι',zFa h1,.inr ⟨rfl,rfl⟩,h2,by rw[show (aop (.xop (.mset str) [m',k',v']) K H nx).v=.undef from h4];exact .undef _ _,h3,fun h=>by cases h⟩
   · cases h
  · cases h
 |
  index t x i =>
  rw[hop] at h;simp only at h;split at h
  ·
   rename_i len e hu;split at h
   ·
    rename_i inf d hi hd;split at h
    · rename_i hone;simp only[Wc,Wa,Wd] at h;obtain⟨x',hx,i',hi',rfl⟩:=h;exact(zCz (P:=P) hu hi hd hone (zp hk hx) (zp hk hi') hs).done (pure:=true) rel
    · cases h
   · cases h
  · cases h
 |
  indexAddr t x i =>
  rw[hop] at h;simp only at h;split at h
  ·
   rename_i len e hu;split at h
   ·
    rename_i inf hi;split at h
    · rename_i hpos;simp only[Wc,Wa,Wd] at h;obtain⟨x',hx,i',hi',rfl⟩:=h;exact(zAW (P:=P) hu hi hpos (zp hk hx) (zp hk hi') hs).done (pure:=true) rel
    · cases h
   · cases h
  · cases h
 |
  build t parts =>
  rw[hop] at h;simp only at h;split at h
  ·
   rename_i len e z hu hz;split at h
   ·
    rename_i i hi;simp only[Wc,Wa,Wd] at h;obtain⟨ps,hps,rfl⟩:=h
    have hmap:(parts.map fun(p:Nat × Operand)=>(p.1,a.eval p.2)).toList=parts.toList.map fun p=>(p.1,a.eval p.2):=by simp
    have:=zyq (P:=P) (w:=w) (parts:=parts.map fun(p:Nat × Operand)=>(p.1,a.eval p.2)) hu hi hz (by rw[hmap];exact zj2 hk (by simpa using hps)) hs;exact this.done rel
   · cases h
  · cases h
 |
  binOp op t x y ty =>
  rw[hop] at h;simp only at h;split at h
  ·
   rename_i len e hu;split at h
   ·
    rename_i ss hss;split at h
    ·
     rename_i hg;split at h
     · simp only[Wc,Wa,Wd] at h;obtain⟨x',hx,y',hy,rfl⟩:=h;exact(zA5 (P:=P) (neg:=false) hu hss hg (zp hk hx) (zp hk hy) hs).done (pure:=true) rel
     · simp only[Wc,Wa,Wd] at h;obtain⟨x',hx,y',hy,rfl⟩:=h;exact(zA5 (P:=P) (neg:=true) hu hss hg (zp hk hx) (zp hk hy) hs).done (pure:=true) rel
     · cases h
    · cases h
   · cases h
  · cases h
 |
  call c =>
  rw[hop] at h;simp only at h;split at h
  ·
   rename_i b hb;split at h
   ·
    rename_i t x ht hx
    have hat:c.argTypes=#[t]:=by rw[←Wg (xs:=c.argTypes),ht]
    have hax:c.args=#[x]:=by rw[←Wg (xs:=c.args),hx]
    split at h
    ·
     rename_i kt et hu;obtain⟨y',hy,rfl⟩:=We.1 h;have hd:=(zCO (P:=P) (ty:=o.type) rel hu (zp hk hy) hs).done (pure:=true) rel
     have e:(do let d ←resolve a.eval c o.type;invoke d.target d.args:Sem Next).run P w=(do Pure.pure (Next.value (←Builtin.len_ #[t] o.type #[a.eval x])):Sem Next).run P w:=by simp[resolve,hb,hat,hax,invoke,Sem.run_bind,builtin]
     rw[e];exact hd
    · cases h
   ·
    rename_i t x ht hx
    have hat:c.argTypes=#[t]:=by rw[←Wg (xs:=c.argTypes),ht]
    have hax:c.args=#[x]:=by rw[←Wg (xs:=c.args),hx]
    split at h
    ·
     rename_i et hu;obtain⟨y',hy,rfl⟩:=We.1 h;have hd:=(zDp (P:=P) (ty:=o.type) hu (zp hk hy) hs).done (pure:=true) rel
     have e:(do let d ←resolve a.eval c o.type;invoke d.target d.args:Sem Next).run P w=(do Pure.pure (Next.value (←Builtin.cap_ #[t] o.type #[a.eval x])):Sem Next).run P w:=by simp[resolve,hb,hat,hax,invoke,Sem.run_bind,builtin]
     rw[e];exact hd
    · cases h
   ·
    rename_i t u x k ht hx
    have hat:c.argTypes=#[t,u]:=by rw[←Wg (xs:=c.argTypes),ht]
    have hax:c.args=#[x,k]:=by rw[←Wg (xs:=c.args),hx]
    split at h
    ·
     rename_i et kq hu hq;split at h
     ·
      rename_i i z hi hz;simp only[Wc,Wa,Wd] at h;obtain⟨x',hx',k',hk',rfl⟩:=h;have hd:=(zEA (P:=P) (ty:=o.type) rel hu hq hi hz (zp hk hx') (zp hk hk') hs).done
      have e:(do let d ←resolve a.eval c o.type;invoke d.target d.args:Sem Next).run P w=(do Pure.pure (Next.value (←Builtin.append_ #[t,u] o.type #[a.eval x,a.eval k])):Sem Next).run P w:=by simp[resolve,hb,hat,hax,invoke,Sem.run_bind,builtin]
      rw[e];exact hd
     · cases h
    · cases h
   ·
    rename_i t t2 x k ht hx
    have hat:c.argTypes=#[t,t2]:=by rw[←Wg (xs:=c.argTypes),ht]
    have hax:c.args=#[x,k]:=by rw[←Wg (xs:=c.args),hx]
    split at h
    ·
     rename_i kt et hu;split at h
     ·
      rename_i str hkk;simp only[Wc,Wa,Wd] at h;obtain⟨x',hx',k',hk',rfl⟩:=h;have hd:=(zDi (P:=P) (ts:=#[t,t2]) (ty:=o.type) rel rfl hu hkk (zp hk hx') (zp hk hk') hs).done
      have e:(do let d ←resolve a.eval c o.type;invoke d.target d.args:Sem Next).run P w=(do Pure.pure (Next.value (←Builtin.delete_ #[t,t2] o.type #[a.eval x,a.eval k])):Sem Next).run P w:=by simp[resolve,hb,hat,hax,invoke,Sem.run_bind,builtin]
      rw[e];exact hd
     · cases h
    · cases h
   · cases h
  · cases h
 | _=>rw[hop] at h;cases h
theorem zE5{o:Oper}{ao:AOp}(h:cyop P o=some ao)(hcall:ao.isCall=false){a:Act}{K:Nat→AV}(rel:RelH w L ι H nx)(hk:KOk w (Lt L ι H) ι a.tmps K)(hs:(aop ao K H nx).side):
  zmS w L ι H nx ((execOp a.eval o).run P w) (aop ao K H nx) ao.pure:=by
 unfold cyop at h;split at h
 · rename_i a0 h0;cases h;exact zCf h0 hcall rel hk hs
 · cases h;exact False.elim hs
theorem cop_ok{o:Oper}{ao:AOp}(h:cop P o=some ao)(hcall:ao.isCall=false){a:Act}{K:Nat→AV}(rel:RelH w L ι H nx)(hk:KOk w (Lt L ι H) ι a.tmps K)(hs:(aop ao K H nx).side):
  zmS w L ι H nx ((execOp a.eval o).run P w) (aop ao K H nx) ao.pure:=by
 unfold cop at h;split at h
 · rename_i a0 h0;cases h;exact zED h0 hcall rel hk hs
 ·
  split at h
  · rename_i p hp;cases h;exact zE0 hp rel hk hs
  · exact zE5 h hcall rel hk hs
end
def Stab(J:(Nat→Prop)→(Nat→Prop)→World→Prop):Prop:=∀(L O O':Nat→Prop)(w w':World),J L O w→(∀b,b < w.heap.size→¬O b→w'.heap[b]? = w.heap[b]?)→(∀b,O' b→O b∨w.heap.size≤b)→(∀b,O' b→b < w'.heap.size) →
 w.heap.size≤w'.heap.size→w'.os=w.os→w'.tape=w.tape→w'.output=w.output→J L O' w'
def zk6(L:Nat→Prop)(w w':World):Nat→Prop:=fun b=>L b∨(w.heap.size≤b∧b < w'.heap.size)
inductive AV.From(N:Nat):AV→Prop where
 | undef:AV.From N .undef
 | int (k n):AV.From N (.int k n)
 | bool (b):AV.From N (.bool b)
 | str (s):AV.From N (.str s)
 | nilp:AV.From N .nilp
 | ptr (r q g i f) (h:N≤r):AV.From N (.ptr r q g i f)
 | iptr (n c):AV.From N (.iptr n c)
 | sl (sz n f):AV.From N (.sl sz n f)
 | nilsl:AV.From N .nilsl
 | cut:AV.From N .cut
 | own (r q g off n) (h:N≤r):AV.From N (.own r q g off n)
 | fn (f caps) (h:∀a∈caps,AV.From N a):AV.From N (.fn f caps)
 | nilfn:AV.From N .nilfn
 | agg (asv) (h:∀a∈asv,AV.From N a):AV.From N (.agg asv)
 | tup (asv) (h:∀a∈asv,AV.From N a):AV.From N (.tup asv)
 | mp (r q) (h:N≤r):AV.From N (.mp r q)
 | nilmp:AV.From N .nilmp
 | it (r) (h:N≤r):AV.From N (.it r)
theorem AV.from0:∀a:AV,AV.From 0 a
 | .undef=>.undef
 | .int _ _=>.int _ _
 | .bool _=>.bool _
 | .str _=>.str _
 | .nilp=>.nilp
 | .ptr _ _ _ _ _=>.ptr _ _ _ _ _ (Wl _)
 | .iptr _ _=>.iptr _ _
 | .sl _ _ _=>.sl _ _ _
 | .nilsl=>.nilsl
 | .cut=>.cut
 | .own _ _ _ _ _=>.own _ _ _ _ _ (Wl _)
 | .fn _ caps=>.fn _ _ (fun a _=>AV.from0 a)
 | .nilfn=>.nilfn
 | .agg l=>.agg _ (fun a _=>AV.from0 a)
 | .tup l=>.tup _ (fun a _=>AV.from0 a)
 | .mp _ _=>.mp _ _ (Wl _)
 | .nilmp=>.nilmp
 | .it _=>.it _ (Wl _)
termination_by x=>SizeOf.sizeOf x
decreasing_by all_goals (rename_i h;have:=List.sizeOf_lt_of_mem h;simp only[AV.fn.sizeOf_spec,AV.agg.sizeOf_spec,AV.tup.sizeOf_spec];omega)
def Inj.above(ι:Inj)(N:Nat):Inj:=fun r q g=>if r < N then none else ι r q g
theorem VR.above{w:World}{L:Nat→Prop}{N:Nat}{ι:Inj}{v:Value}{a:AV}(h:VR w L ι v a):AV.From N a→VR w L (ι.above N) v a:=by
 induction h with
 | undef ι v=>intro _;exact .undef _ _
 | int ι k n h=>intro _;exact .int _ _ _ h
 | bool ι b=>intro _;exact .bool _ _
 | str ι s h=>intro _;exact .str _ _ h
 | nilp ι=>intro _;exact .nilp _
 | ptr ι r q g i f l h hm=>intro hb;cases hb with|ptr _ _ _ _ _ hr=>exact .ptr _ _ _ _ _ _ _ (by simp[Inj.above,WI.2 hr,h]) hm
 | mp ι r q l h hm=>intro hb;cases hb with|mp _ _ hr=>exact .mp _ _ _ _ (by simp[Inj.above,WI.2 hr,h]) hm
 | nilmp ι=>intro _;exact .nilmp _
 | it ι r l h hm=>intro hb;cases hb with|it _ hr=>exact .it _ _ _ (by simp[Inj.above,WI.2 hr,h]) hm
 | iptr ι a n c V hc hL hv ih=>intro _;exact .iptr _ a n c V hc hL hv
 | sl ι a sz n cap f V hn hb hc hL hv ih=>intro _;exact .sl _ a sz n cap f V hn hb hc hL hv
 | sl0 ι sz f=>intro _;exact .sl0 _ _ _
 | nilsl ι=>intro _;exact .nilsl _
 | cut ι a=>intro _;exact .cut _ _
 | own ι r q g off n a c l h hm hn hc ha=>intro hb;cases hb with|own _ _ _ _ _ hr=>exact .own _ _ _ _ _ _ _ _ l (by simp[Inj.above,WI.2 hr,h]) hm hn hc ha
 | fn ι f cs caps hs hv ih=>intro hb;cases hb with|fn _ _ hr=>exact .fn _ _ _ _ hs (fun i v a h1 h2=>ih i v a h1 h2 (hr a (WX h2)))
 | nilfn ι=>intro _;exact .nilfn _
 | agg ι cs asv hs h1 hv ih=>intro hb;cases hb with|agg _ hr=>exact .agg _ _ _ hs h1 (fun i v a h1 h2=>ih i v a h1 h2 (hr a (WX h2)))
 | tup ι cs asv hs hv ih=>intro hb;cases hb with|tup _ hr=>exact .tup _ _ _ hs (fun i v a h1 h2=>ih i v a h1 h2 (hr a (WX h2)))
structure LowH(n:Nat)(H:AH):Prop where
 num:∀r o,H.look r=some o→r < n
 val:∀r q sz els g,H.get r q=some (.row sz els g)→∀c∈els,∀v∈c,AV.Below n v
structure HighH(n:Nat)(H:AH):Prop where
 num:∀r o,H.look r=some o→n≤r
 val:∀r q sz els g,H.get r q=some (.row sz els g)→∀c∈els,∀v∈c,AV.From n v
theorem LowH.nil(n:Nat):LowH n []:=⟨fun r o h=>(by cases h),fun r q sz els g h=>(by cases h)⟩
theorem HighH.zero(H:AH):HighH 0 H:=⟨fun _ _ _=>Wl _,fun _ _ _ _ _ _ _ _ _ _=>AV.from0 _⟩
def AH.upto(H:AH)(n:Nat):AH:=H.filter fun p=>Nat.blt p.1 n
theorem AH.look_upto(n r:Nat):∀H:AH,(AH.upto H n).look r=if r < n then AH.look H r else none
 | []=>by simp[AH.upto,AH.look]
 |
  (j,o)::t=>by
  have ih:=AH.look_upto n r t;unfold AH.upto at ih ⊢;rw[List.filter_cons]
  by_cases hj:j < n
  ·
   have hb:Nat.blt j n=true:=by simpa using hj
   rw[if_pos hb];simp only[AH.look,ih]
   by_cases he:j=r
   · subst he;simp[hj]
   · simp only[zeL he,cond_false]
  ·
   have hb:¬Nat.blt j n=true:=by simpa using hj
   rw[if_neg hb];simp only[ih,AH.look]
   by_cases hr:r < n
   · rw[if_pos hr,if_pos hr,zeL (by omega)];rfl
   · rw[if_neg hr,if_neg hr]
theorem AH.get_upto(H:AH)(n r q:Nat):(AH.upto H n).get r q=if r < n then H.get r q else none:=by
 unfold AH.get;rw[AH.look_upto]
 split<;>rfl
theorem AH.upto_zero(H:AH):AH.upto H 0=[]:=by unfold AH.upto;rw[List.filter_eq_nil_iff];intro p _;simp
theorem AH.look_app2(r:Nat):∀(H T:AH),AH.look (H++T) r=match AH.look H r with|some o=>some o|none=>AH.look T r
 | [],T=>rfl
 |
  (j,o)::t,T=>by
  show AH.look ((j,o)::(t++T)) r=_;simp only[AH.look]
  cases h:Nat.beq j r with
  | true=>rfl
  | false=>simpa using AH.look_app2 r t T
theorem AH.look_low{n:Nat}{H T:AH}(hH:∀r o,H.look r=some o→r < n)(hT:∀r o,T.look r=some o→n≤r)(r:Nat):AH.look (H++T) r=if r < n then AH.look H r else AH.look T r:=by
 rw[AH.look_app2]
 cases h:AH.look H r with
 | some o=>rw[if_pos (hH r o h)]
 |
  none =>
  by_cases hr:r < n
  ·
   rw[if_pos hr]
   cases h2:AH.look T r with
   | none=>rfl
   | some o=>have:=hT r o h2;omega
  · rw[if_neg hr]
theorem AH.get_low{n:Nat}{H T:AH}(hH:∀r o,H.look r=some o→r < n)(hT:∀r o,T.look r=some o→n≤r)(r q:Nat):AH.get (H++T) r q=if r < n then AH.get H r q else AH.get T r q:=by
 unfold AH.get;rw[AH.look_low hH hT]
 split<;>rfl
section
variable {σ:Type}
def YOk(P:Program)(l:Nat)(next:σ→Option (List AV × σ))(J:σ→(Nat→Prop)→(Nat→Prop)→World→Prop)(Jx:(Nat→Prop)→(Nat→Prop)→World→Prop):Prop :=
 ∀(s:σ)(x:List AV)(s':σ)(L O:Nat→Prop)(w:World)(vs:Array Value),next s=some (x,s')→J s L O w→(∀b,L b→b < w.heap.size)→(∀b,O b→b < w.heap.size∧¬L b)→VRs w (fun b=>L b∨O b) noI vs.toList x →
  YieldAt Fence.wide 0 P l vs w fun e w'=>Ext L w w'∧((e=.returned (.bool true)∧J s' (zk6 L w w') O w')∨(e=.returned (.bool false)∧Jx (zk6 L w w') O w'))
structure StY(w0:World)(L0:Nat→Prop)(ι0:Inj)(H0:AH)(w:World)(L:Nat→Prop)(ι:Inj)(H:AH)(nx:Nat):Prop where
 os:w.os=w0.os
 tape:w.tape=w0.tape
 output:w.output=w0.output
 size:w0.heap.size≤w.heap.size
 block:∀b,b < w0.heap.size→¬live ι0 H0 b→¬L0 b→w.heap[b]? = w0.heap[b]?
 inj:∀r q g l,ι0 r q g=some l→ι r q g=some l
 rel:RelH w L ι H nx
 lv:∀b,live ι H b→live ι0 H0 b∨w0.heap.size≤b
 lg:∀b,L b→L0 b∨w0.heap.size≤b
 ll:∀b,L0 b→L b
def ItOk(P:Program)(f:FuncId)(caps:List AV)(H:AH)(nx:Nat)(next:σ→Option (List AV × σ))(ok:σ→Prop)(s0:σ)(Q:Option σ→AH→Nat→Prop):Prop :=
 ∀(w:World) (L:Nat→Prop) (ι:Inj) (vc:Array Value) (l:Nat) (J:σ→(Nat→Prop)→(Nat→Prop)→World→Prop) (Jx:(Nat→Prop)→(Nat→Prop)→World→Prop),
  (∀s,Stab (J s))→Stab Jx→YOk P l next J Jx→(∀s L O w,J s L O w→ok s)→RelH w L ι H nx→VRs w (Lt L ι H) ι vc.toList caps→J s0 L (live ι H) w →
  Calls P f (#[.func (.yield l) #[] #[]]++vc) w fun e w'=>∃v L' ι' H' nx',e=.returned v∧StY w L ι H w' L' ι' H' nx'∧nx≤nx' ∧
   ((∃s,J s L' (live ι' H') w'∧Q (some s) H' nx')∨(Jx L' (live ι' H') w'∧Q none H' nx'))
theorem ItOk.mono{P:Program}{f:FuncId}{caps:List AV}{H:AH}{nx:Nat}{next:σ→Option (List AV × σ)}{ok:σ→Prop}{s0:σ}{Q Q':Option σ→AH→Nat→Prop}(h:ItOk P f caps H nx next ok s0 Q)(hq:∀s H nx,Q s H nx→Q' s H nx):
  ItOk P f caps H nx next ok s0 Q':=by
 intro w L ι vc l J Jx h1 h2 h3 h4 h5 h6 h7
 exact(h w L ι vc l J Jx h1 h2 h3 h4 h5 h6 h7).mono fun e w' ⟨v,L',ι',H',nx',k1,k2,k3,k4⟩=>⟨v,L',ι',H',nx',k1,k2,k3,k4.imp (fun⟨s,a,b⟩=>⟨s,a,hq _ _ _ b⟩) (fun⟨a,b⟩=>⟨a,hq _ _ _ b⟩)⟩
end
def znI(sz bytes:Nat)(x y:AV)(H:AH)(nx:Nat)(k:AV→AH→Nat→Prop):Prop :=
 match zgy sz y H,lenV y,x with
 |
  some news,some m,.own r q g off n=>match H.get r q with
  | some (.row sz' els g')=>(sz'=sz∧g=g'∧off+n≤els.length∧fits H y∧(n+m) * bytes≤140737488355328∧0 < m) ∧
    k (.own r q g off (n+m)) (H.set r q (.row sz (els.take (off+n)++news++els.drop (off+n+m)) g)) nx ∧
    k (.own nx 0 0 0 (n+m)) (H.set nx 0 (.row sz ((els.drop off).take n++news) 0)) (nx+1)
  | _=>False
 | _,_,_=>False
theorem znI.mono{sz bytes:Nat}{x y:AV}{H:AH}{nx:Nat}{k k':AV→AH→Nat→Prop}(hk:∀v H nx,k v H nx→k' v H nx)(h:znI sz bytes x y H nx k):znI sz bytes x y H nx k':=by
 unfold znI at *;split at h
 ·
  split at h
  · exact⟨h.1,hk _ _ _ h.2.1,hk _ _ _ h.2.2⟩
  · exact h
 · exact h
section
variable {P:Program} {w:World} {L:Nat→Prop} {ι:Inj} {H:AH} {nx:Nat}
theorem zFx {t tx ty e e':TypeId} {i:TypeInfo} {z:List AV} {xv yv:Value} {x y:AV} {k:AV→AH→Nat→Prop} (rel:RelH w L ι H nx) (ht:P.underlying t=some (.slice e)) (htx:P.underlying tx=some (.slice e')) (hi:P.info? e=some i) (hz:zhq P e=some z)
  (hpos:0 < i.size) (hby:0 < i.bytes) (hx:VR w (Lt L ι H) ι xv x) (hy:VR w (Lt L ι H) ι yv y) (h:znI i.size i.bytes x y H nx k) :
  ∃v w' ι' av H' nx',(Builtin.append_ #[t,tx] ty #[xv,yv]).run P w=.ok v w'∧Step w L ι H nx w' ι' H' nx'∧nx≤nx'∧VR w' (Lt L ι' H') ι' v av∧k av H' nx':=by
 obtain⟨i',zv,hi',hzv,hzs,_,_⟩:=zg0 hz;rw[hi] at hi';cases hi';unfold znI at h;split at h
 case h_2=>exact h.elim
 rename_i news m r q g off n he hm;split at h
 case h_2=>exact h.elim
 rename_i sz' els g' hg;obtain⟨⟨rfl,rfl,hle,hf,hbound,hmp⟩,hk1,hk2⟩:=h
 cases hx with
 | own _ _ _ _ _ _ a c l hl hmx hn hc ha =>
 obtain⟨newV,hs,hnew,hnm⟩:=zxd rel htx hpos hy he hm hf;obtain⟨l',hl',ok⟩:=rel.row _ _ _ _ _ hg;rw[hl] at hl';cases hl'
 have hlen:((els.drop off).take n).length=n:=by simp;omega
 obtain⟨oldV,hold,hcl⟩:=LR.ofCells (w:=w) (M:=Lt L ι H) (ι:=ι) (b:=l.block) (o:=l.off+off * l.sz) hlen (sz:=i.size) (fun i c h=>ok.wide _ _ (zcO h).2) (fun p c j x hi hj=>by
  obtain⟨h5,h6⟩:=zcO hi;obtain⟨v,h7,h8,h9⟩:=ok.holds hmx _ c j x h6 hj;refine⟨v,?_,h8,h9⟩;rw[ok.hsz,show l.off+off * i.size+p * i.size+j=l.off+(off+p) * i.size+j by rw[Wh];omega]
  exact h7)
 have hnmb:n+m≤140737488355328:=by have:(n+m) * 1≤(n+m) * i.bytes:=Nat.mul_le_mul_left _ hby;omega
 have hmax:n+m≤maxLen:=by unfold maxLen;omega
 by_cases hfit:n+m≤c
 ·
  have hcpos:0 < c:=by omega
  have had:=ha hcpos;subst had
  have hcap:0 < l.cap * l.sz:=by rw[ok.hsz];exact WC (by omega) hpos
  have hnV:newV.length=m * i.size:=by rw[hnew.size,hnm]
  have hcc:(off+n+m) * i.size≤l.cap * i.size:=Wu _ (by omega);rw[Wh,Wh] at hcc
  have hth:∀j,j < newV.length→(w.cell? ⟨l.block,l.off+off * l.sz+n * i.size+j,none⟩).isSome=true∧w.frozen? ⟨l.block,l.off+off * l.sz+n * i.size+j,none⟩=false:=fun j hj=>by have:=(ok.plain hmx).there (off * i.size+n * i.size+j) (by omega);rw[ok.hsz,show l.off+off * i.size+n * i.size+j=l.off+(off * i.size+n * i.size+j) by omega];exact this
  have hrun:=run_append_room_src (P:=P) w t tx ty e i ht hi l.block (l.off+off * l.sz) n c yv m newV hs hfit (fun j hj=>(hth j hj).1) (fun j hj=>(hth j hj).2)
  have hsame:∀l0,ι r q g=some l0→l0=l:=fun l0 h0=>by rw[hl] at h0;cases h0;rfl
  have c1:Chg w ι H r q g l (w.setCells l.block (l.off+off * l.sz+n * i.size) newV):=.write rel hg hl hcap rfl hsame (Wf _);have hcell:=zh9 w l.block (l.off+off * l.sz+n * i.size) newV (fun j hj=>(hth j hj).1)
  have ht1:(els.take (off+n)).length=off+n:=by simp;omega
  have hget:∀(p:Nat)(c':List AV),(els.take (off+n)++news++els.drop (off+n+m))[p]? = some c'→(off+n≤p∧p < off+n+m∧news[p - (off+n)]? = some c')∨(¬(off+n≤p∧p < off+n+m)∧els[p]? = some c'):=by
   intro p c' hp
   by_cases h1:p < off+n
   · right;rw[Wag,Ww (by omega),Wac,if_pos h1] at hp;exact⟨by omega,hp⟩
   ·
    by_cases h2:p < off+n+m
    · left;rw[Wag,Wx (by omega),ht1,Ww (by omega)] at hp;exact⟨by omega,h2,hp⟩
    ·
     right;rw[Wx (by simp;omega),Wad] at hp;refine⟨by omega,?_⟩;rw[←hp]
     congr 1
     simp;omega
  have hlen2:(els.take (off+n)++news++els.drop (off+n+m)).length≤l.cap:=by have:=(ok.plain hmx).len;simp only[WG,ht1,WV,hnm];omega
  refine⟨_,_,_,_,_,_,hrun,c1.step (.inl ⟨_,_,hg⟩) rel (rel.idx _ _ _ _ hl) (Wf _) (.mk' ok.hsz hlen2 hmx (fun p hp=>?_) (fun hp=>((ok.plain hmx).fz hp).setCells) (fun p c' hp=>?_) (fun p c' j a hp hj=>?_)),Wf _,?_,hk1⟩
  ·
   have h0:=(ok.plain hmx).there p hp;rw[World.frozen?_setCells,hcell];refine⟨?_,h0.2⟩;split
   · rw[Wn (by omega)];rfl
   · exact h0.1
  ·
   rcases hget p c' hp with ⟨_,_,h1⟩ | ⟨_,h1⟩
   · exact hnew.wide _ _ h1
   · exact ok.wide _ _ h1
  ·
   rcases hget p c' hp with ⟨h1,h2,h3⟩ | ⟨h1,h3⟩
   ·
    obtain⟨v,h4,h6,h7⟩:=hnew.rel _ _ _ _ h3 hj
    have hjs:j < i.size:=by rw[←hnew.wide _ _ h3];exact(Wq.1 hj).1
    have hlt:=(Wq.1 h4).1
    have e1:(p - (off+n)) * i.size+(off * i.size+n * i.size)=p * i.size:=by
     rw[←Wh,←Wh]
     congr 1
     omega
    refine⟨v,?_,h6,c1.vr (.inl ⟨_,_,hg⟩) rel h7⟩;rw[hcell,ok.hsz,if_pos (by omega)];rw[show l.off+p * i.size+j - (l.off+off * i.size+n * i.size)=(p - (off+n)) * i.size+j by omega];exact h4
   ·
    obtain⟨v,h4,h6,h7⟩:=ok.holds hmx _ _ _ _ h3 hj
    have hjs:j < i.size:=by rw[←ok.wide _ _ h3];exact(Wq.1 hj).1
    refine⟨v,?_,h6,c1.vr (.inl ⟨_,_,hg⟩) rel h7⟩;rw[hcell,ok.hsz,if_neg ?_]
    · exact h4
    ·
     rintro⟨a1,a2⟩;have e2:(off+n) * i.size=off * i.size+n * i.size:=Wh _ _ _
     rcases Nat.lt_or_ge p (off+n) with h8|h8
     · have:=Wu i.size (show p+1≤off+n from h8);rw[Wh] at this;omega
     ·
      have h9:off+n+m≤p:=by omega
      have:=Wu i.size h9;rw[Wh,Wh] at this;omega
  · exact .own _ r q g off (n+m) _ c l (Inj.put_same _ _ _ _ _) hmx hfit (by omega) (fun _=>rfl)
 ·
  have hfc:(Builtin.firstCells i.size n (.slice a n c)).run P w.drew=.ok oldV.toArray w.drew:=by
   rcases Wae c with hc0|hcpos
   ·
    have hn0:n=0:=by omega
    subst hn0;have:oldV=[]:=WD (by rw[hold.size,hlen];simp);subst this
    cases a with
    | none=>exact run_firstCells_none w.drew i.size 0 0 c
    | some a=>exact run_firstCells_some w.drew i.size 0 a 0 c [] (by simp) (by intro _ _ h';simp at h')
   · have had:=ha hcpos;subst had;exact run_firstCells_some w.drew i.size n ⟨l.block,l.off+off * l.sz,none⟩ n c oldV (by rw[hold.size,hlen]) (fun j u hu=>by rw[add_mid];exact hcl j u hu)
  have hrun:=run_append_grow_src (P:=P) w t tx ty e i zv ht hi hzv a n c oldV hfc yv m newV hs (by omega) (by omega) (growslice_fits (by omega) hbound);have hge:=grownCap_ge w (n+m) c e;have hgm:=grownCap_le_maxLen w (n+m) c e hmax;have hboth:=hold.append hnew
  have hlen2:((els.drop off).take n++news).length=n+m:=by rw[WG,hlen,hnm]
  have hfr:∀l0,ι nx 0 0=some l0→l0=⟨w.heap.size,0,grownCap w (n+m) c e,i.size⟩:=fun l0 h0=>by rw[rel.freshI] at h0;cases h0
  have c1:Chg w ι H nx 0 0 ⟨w.heap.size,0,grownCap w (n+m) c e,i.size⟩ (w.drew.alloc (.cells ((oldV++newV).toArray++Builtin.zeroCells zv.cells (grownCap w (n+m) c e - (n+m))) e)) :=
   ⟨rfl,rfl,rfl,by simp,fun b hb _=>Below.heap_alloc w.drew _ b hb,fun _=>.inr (Wf _),hfr,fun g2 l2 h=>by rw[rel.freshI] at h;cases h⟩
  have hL:(oldV++newV).length=(n+m) * i.size:=by rw[WG,hold.size,hnew.size,hlen,hnm,Wh]
  have hsz:((oldV++newV).toArray++Builtin.zeroCells zv.cells (grownCap w (n+m) c e - (n+m))).size=grownCap w (n+m) c e * i.size:=by
   rw[Waf,Wah,hL,size_zeroCells,hzs,←Wh]
   congr 1
   omega
  refine⟨_,_,_,_,_,_,hrun,c1.step (rel.sok _) rel (Wo _) (Wp _) (.mk' rfl (by rw[hlen2];exact hge) hgm (fun k hk=>?_) (fun _=>FzOk.new) hboth.wide (fun k c' j a hk hj=>?_)),Wp _,?_,hk2⟩
  · simp only[Wv];have e1:(w.drew.alloc (.cells ((oldV++newV).toArray++Builtin.zeroCells zv.cells (grownCap w (n+m) c e - (n+m))) e)).cell? ⟨w.heap.size,k,none⟩=_:=World.cell?_alloc_new w.drew _ _ k;have e2:(w.drew.alloc (.cells ((oldV++newV).toArray++Builtin.zeroCells zv.cells (grownCap w (n+m) c e - (n+m))) e)).frozen? ⟨w.heap.size,k,none⟩=_:=World.frozen?_alloc_new w.drew _ _ k;rw[e1,e2];refine⟨?_,rfl⟩;rw[Wm (by rw[hsz];exact hk)];rfl
  · obtain⟨v,h1,h2,h3⟩:=hboth.rel k c' j a hk hj;refine⟨v,?_,h2,c1.vr (rel.sok _) rel h3⟩;simp only[Wv];have e1:(w.drew.alloc (.cells ((oldV++newV).toArray++Builtin.zeroCells zv.cells (grownCap w (n+m) c e - (n+m))) e)).cell? ⟨w.heap.size,k * i.size+j,none⟩=_:=World.cell?_alloc_new w.drew _ _ _;rw[e1,WM (by rw[Wah];exact(Wq.1 h1).1),WA];exact h1
  · exact .own _ nx 0 0 0 (n+m) _ _ _ (Inj.put_same _ _ _ _ _) hgm hge (by simp) (fun _=>by simp)
end
inductive AExit where
 | normal
 | exit (id:Nat)
 | ret
 | goto (l:Nat)
abbrev QT:=AExit→Kn→AH→Nat→Prop
def zU(P:Program)(f:FuncId)(args:List AV)(H:AH)(nx:Nat)(Q:AV→AH→Nat→Prop):Prop :=
 ∀(w:World)(L:Nat→Prop)(ι:Inj)(vs:Array Value),RelH w L ι H nx→VRs w (Lt L ι H) ι vs.toList args →
  Calls P f vs w (fun e w'=>∃v ι' H' nx' a,e=.returned v∧Step w L ι H nx w' ι' H' nx'∧nx≤nx'∧VR w' (Lt L ι' H') ι' v a∧Q a H' nx')
def zeZ(P:Program)(f:FuncId)(args:List AV)(H:AH)(nx:Nat)(a:AV):Prop :=
 ∀(w:World)(L:Nat→Prop)(ι:Inj)(vs:Array Value),RelH w L ι H nx→VRs w (Lt L ι H) ι vs.toList args →
  Calls P f vs w (fun e w'=>∃v,e=.returned v∧Step w L ι H nx w' ι H nx∧VR w' (Lt L ι H) ι v a)
def CallQ(P:Program)(f:FuncId)(args:List AV)(H:AH)(nx:Nat)(Q:AV→Prop):Prop:=∃a,zeZ P f args H nx a∧Q a
def zhf(t:Bool)(A B:Prop):Prop:=(t=true→A)∧(t=false→B)
theorem zhf.true(A B:Prop):zhf true A B=A:=by simp[zhf]
theorem zhf.false(A B:Prop):zhf false A B=B:=by simp[zhf]
def zf7(P:Program)(f:FuncId):Bool:=match P.funcs[f]? with
 | some fn=>fn.body.isSome && !(fn.name == "runtime.NumGoroutine")
 | none=>false
def setO(K:Kn):Option Nat→AV→Kn
 | none,_=>K
 | some d,v=>K.set d v
def znU(fx:Bool)(r:ORes)(k:AV→AH→Nat→Prop):Prop:=r.side∧((bif fx then r.fact else True)→k r.v r.H r.nx)
def bornOk(since:Int)(es:List (List AV)):Prop:=∀e∈es,∃b,e.getD 2 .undef=.int .i64 b∧b < since
def seenOk(seen:List (List AV)):Prop:=∀s∈seen,∃b,s=[.int .i64 b]
def zt1(v:AV)(seen:List (List AV)):Bool:=match v with
 |
  .int _ b=>seen.any fun s=>match s with
  | [.int _ b']=>decide (b'=b)
  | _=>false
 | _=>false
def zv6(seen es:List (List AV)):List (List AV):=es.filter fun e => !zt1 (e.getD 2 .undef) seen
def zm0(x:AV)(H:AH)(nx:Nat)(k:AV→AH→Nat→Prop):Prop :=
 match x with
 |
  .it r=>match H.get r 0 with
  |
   some (.row sz ([.mp rm qm]::[.int .i64 since]::[.int .i64 st]::seen) g)=>match H.get rm qm with
   |
    some (.row sz2 ([.int .i64 c,_,_]::es) g2)=>(sz=1∧g=0∧sz2=3∧g2=0∧since≤st∧bornOk since es∧seenOk seen) ∧
    (zv6 seen es=[]→k (.tup [.bool false]) H nx) ∧
    ∀e∈zv6 seen es,k (.tup [.bool true,e.getD 0 .undef,e.getD 1 .undef]) (H.set r 0 (.row 1 ([.mp rm qm]::[.int .i64 since]::[.int .i64 c]::(seen++[[e.getD 2 .undef]])) 0)) nx
   | _=>False
  | some (.row sz ([.nilmp]::_::_) g)=>(sz=1∧g=0)∧k (.tup [.bool false]) H nx
  | _=>False
 | _=>False
def zdG(P:Program)(fx:Bool)(op:AOp)(ρ:Nat→AV)(H:AH)(nx:Nat)(k:AV→AH→Nat→Prop):Prop :=
 match op with
 | .call f args=>zU P f (evs ρ args) H nx (fun v H' nx'=>(bif fx then v.wf else True)→k v H' nx')
 | .callq f args=>CallQ P f (evs ρ args) H nx (fun v=>k v H nx)
 |
  .isnil neg p x=>match nilB p (ev ρ x) with
  | some (some b)=>k (.bool (b != neg)) H nx
  | some none=>∀b,k (.bool b) H nx
  | none=>False
 | .mnext x=>zm0 (ev ρ x) H nx k
 | .append2 sz b x y=>znI sz b (ev ρ x) (ev ρ y) H nx k
 |
  .callv x args=>match ev ρ x with
  | .fn (.func f) caps=>zf7 P f=true∧zU P f (evs ρ args++caps) H nx (fun v H' nx'=>(bif fx then v.wf else True)→k v H' nx')
  | _=>False
 | op=>znU fx (aop op ρ H nx) k
def grd(want:Bool):AV→Option Bool
 | .bool b=>some (b == want)
 | .tup []=>some false
 | _=>none
def ExK(P:Program)(fx:Bool)(o:AOper)(K:Kn)(H:AH)(nx:Nat)(k:Kn→AH→Nat→Prop):Prop :=
 match o.guard with
 | none=>zdG P fx o.op K.get H nx (fun v H' nx'=>k (setO K o.dst v) H' nx')
 |
  some (t,want)=>match grd want (K.get t) with
  | some r=>zhf r (zdG P fx o.op K.get H nx (fun v H' nx'=>k (setO K o.dst v) H' nx')) (k (setO K o.dst (.tup [])) H nx)
  | none=>False
def aops(P:Program):List AOper→List Nat→QT→Kn→AH→Nat→Prop
 | [],drop,Q,K,H,nx=>Q .normal (K.drop drop) H nx
 | o::os,drop,Q,K,H,nx=>ExK P true o K H nx (aops P os drop Q)
def awpT(P:Program):DTree→List Nat→QT→Kn→AH→Nat→Prop
 | .done,drop,Q,K,H,nx=>Q .normal (K.drop drop) H nx
 | .stop,_,_,_,_,_=>True
 | .step o t,drop,Q,K,H,nx=>ExK P false o K H nx (awpT P t drop Q)
 | .alt o t r,drop,Q,K,H,nx=>ExK P false o K H nx (awpT P t drop Q)∧awpT P r drop Q K H nx
def WfK(K:Kn):Prop:=∀i,(K.get i).wf
def Ent(B:Nat)(K:Kn)(H:AH)(nx:Nat)(K2:Kn)(H2:AH)(nx2:Nat):Prop :=
 B≤nx2∧∀(w:World)(L:Nat→Prop)(ι:Inj)(tmps:Array Value),RelH w L ι H nx→KOk w (Lt L ι H) ι tmps K.get →
  ∃ι2,RelH w L ι2 H2 nx2∧KOk w (Lt L ι2 H2) ι2 tmps K2.get∧(∀b,live ι2 H2 b→live ι H b)∧∀r q g l,r < B→ι r q g=some l→ι2 r q g=some l
def zD2(B:Nat)(W:QT→Kn→AH→Nat→Prop)(Q:QT)(K:Kn)(H:AH)(nx:Nat):Prop :=
 ∃(α:Type) (S:α→Kn × AH) (N:Nat) (inv:α→Prop) (μ:α→Nat),(∃a,inv a∧Ent B K H nx (S a).1 (S a).2 N) ∧
  ∀a,inv a→WfK (S a).1→W (fun e K H nx=>match e with
   | .normal=>∃a',inv a'∧μ a' < μ a∧Ent B K H nx (S a').1 (S a').2 N
   | e=>Q e K H nx) (S a).1 (S a).2 N
def zDW(B:Nat)(W:Kn→AH→Nat→Prop)(K:Kn)(H:AH)(nx:Nat):Prop :=
 WfK K→∃K2 H2 nx2,Ent B K H nx K2 H2 nx2∧W K2 H2 nx2
def zD5(B:Nat)(W1:QT→Kn→AH→Nat→Prop)(W2:Kn→AH→Nat→Prop)(Q:QT)(K:Kn)(H:AH)(nx:Nat):Prop :=
 ∃(α:Type) (S:α→Kn × AH) (N:Nat) (inv:α→Prop),
  W1 (fun e K H nx=>match e with
   | .normal=>∃a',inv a'∧Ent B K H nx (S a').1 (S a').2 N
   | e=>Q e K H nx) K H nx ∧
  ∀a,inv a→WfK (S a).1→W2 (S a).1 (S a).2 N
def zD4(B l:Nat)(W1 W2:QT→Kn→AH→Nat→Prop)(Q:QT)(K:Kn)(H:AH)(nx:Nat):Prop :=
 ∃(α:Type) (S:α→Kn × AH) (N:Nat) (inv:α→Prop) (μ:α→Nat),
  W1 (fun e K H nx=>match e with
   | .goto l'=>l'=l∧∃a',inv a'∧Ent B K H nx (S a').1 (S a').2 N
   | e=>Q e K H nx) K H nx ∧
  ∀a,inv a→WfK (S a).1→W2 (fun e K H nx=>match e with
   | .goto l'=>l'=l∧∃a',inv a'∧μ a' < μ a∧Ent B K H nx (S a').1 (S a').2 N
   | e=>Q e K H nx) (S a).1 (S a).2 N
def noGQ(Q:QT):QT:=fun e K H nx=>match e with
 | .goto _=>False
 | e=>Q e K H nx
def zlP(K:Kn):List Nat→List AV→Kn
 | t::ts,v::vs=>zlP (K.set t v) ts vs
 | _,_=>K
def zAe(P:Program)(B:Nat)(W1 W2:Nat→QT→Kn→AH→Nat→Prop)(ps:List Nat)(Q:QT)(v:AV)(K:Kn)(H:AH)(nx:Nat):Prop :=
 ∃(σ:Type) (f:FuncId) (caps:List AV) (next:σ→Option (List AV × σ)) (ok:σ→Prop) (s0:σ) (α:Type) (K1:Kn) (S:α→AH) (N:Nat) (inv:α→σ→Prop) (invx:α→AExit→Prop) (nc:Nat) (Hc:AH) (R:Option σ→AH→Prop),
  v=.fn (.func f) caps∧zf7 P f=true∧(∀c∈caps,AV.Below nc c)∧ItOk P f caps Hc nc next ok s0 (fun s H' _=>(match s with|some s=>next s=none|none=>True)∧R s (AH.upto H' nc))∧(∀a s,inv a s→ok s) ∧
  (∀s x s',next s=some (x,s')→x.length=ps.length) ∧
  (nc≤B∧LowH nc Hc∧(∀s H',R s H'→LowH nc H')∧(∀a,HighH nc (S a))∧(∀i,AV.From nc (K1.get i))) ∧
  (∃a,inv a s0∧Ent B K H nx K1 (Hc++S a) N) ∧
  (∀a s x s',inv a s→next s=some (x,s')→WfK (zlP K1 ps x)→W1 N (fun e K H nx=>match e with
   |
    .normal=>W2 N (fun e K H nx=>match e with
    | .normal=>∃a',inv a' s'∧Ent B K1 H nx K1 (S a') N
    | .goto _=>False
    | e=>∃a',invx a' e∧Ent B K1 H nx K1 (S a') N) K H nx
   | _=>False) (zlP K1 ps x) (S a) N) ∧
  (∀a s H',inv a s→next s=none→R (some s) H'→Q .normal K1 (H'++S a) N) ∧
  (∀a e H',invx a e→R none H'→Q e K1 (H'++S a) N)
def awp(P:Program)(B:Nat):ACode→QT→Kn→AH→Nat→Prop
 | .skip,Q,K,H,nx=>Q .normal K H nx
 | .region ops drop,Q,K,H,nx=>aops P ops drop Q K H nx
 | .draw t drop,Q,K,H,nx=>awpT P t drop Q K H nx
 | .seq a b,Q,K,H,nx=>awp P B a (fun e K H nx=>match e with
   | .normal=>awp P B b Q K H nx
   | e=>Q e K H nx) K H nx
 |
  .cond c a b,Q,K,H,nx=>match ev K.get c with
  | .bool t=>zhf t (awp P B a Q K H nx) (awp P B b Q K H nx)
  | _=>False
 | .block id c,Q,K,H,nx=>awp P B c (fun e K H nx=>match e with
   | .exit id'=>bif Nat.beq id' id then Q .normal K H nx else Q (.exit id') K H nx
   | e=>Q e K H nx) K H nx
 | .loop c,Q,K,H,nx=>zD2 B (awp P B c) Q K H nx
 | .exit id,Q,K,H,nx=>Q (.exit id) K H nx
 | .ret,Q,K,H,nx=>Q .ret K H nx
 | .mark _ c,Q,K,H,nx=>zDW B (awp P B c Q) K H nx
 | .scope c,Q,K,H,nx=>awp P B c (noGQ Q) K H nx
 | .label _,Q,K,H,nx=>Q .normal K H nx
 | .goto l,Q,K,H,nx=>Q (.goto l) K H nx
 | .jump l a b,Q,K,H,nx=>zD4 B l (awp P B a) (awp P B b) Q K H nx
 | .join a b,Q,K,H,nx=>zD5 B (awp P B a) (awp P B b Q) Q K H nx
 | .range g ps a b,Q,K,H,nx=>zAe P B (fun N=>awp P N a) (fun N=>awp P N b) ps Q (ev K.get g) K H nx
inductive ARet where
 | tmp (t:Nat)
 | cell (t:Nat) (agg:Bool) (n:Nat)
def cret(P:Program):ResultVar→Option ARet
 | .tmp t=>some (.tmp t)
 |
  .cell a t=>match P.underlying t,P.info? t with
  | some d,some i=>if zdy d then some (.cell a true i.size) else some (.cell a false 1)
  | _,_=>none
def zcK(K:Kn)(H:AH)(nx:Nat):List ARet→Prop
 | []=>True
 | .tmp _::r=>zcK K H nx r
 | .cell t agg n::r=>(zfo agg n (K.get t) H nx).side∧zcK K H nx r
def zb2(K:Kn)(H:AH)(nx:Nat):List ARet→List AV
 | []=>[]
 | .tmp t::r=>K.get t::zb2 K H nx r
 | .cell t agg n::r=>(zfo agg n (K.get t) H nx).v::zb2 K H nx r
def zow:List AV→AV
 | [v]=>v
 | l=>.tup l
def retK(rs:List ARet)(Post:AV→AH→Nat→Prop):QT
 | .exit _,_,_,_=>False
 | .goto _,_,_,_=>False
 | _,K,H,nx=>zcK K H nx rs∧Post (zow (zb2 K H nx rs)) H nx
def zlx:Nat→List AV→Kn
 | _,[]=>[]
 | i,a::r=>(i,a)::zlx (i+1) r
theorem zq3:∀(asv:List AV)(i j:Nat),(zlx i asv).get j=if i≤j then asv.getD (j - i) .undef else .undef
 | [],i,j=>by simp[zlx,Kn.get]
 |
  a::asv,i,j=>by
  simp only[zlx,Kn.get]
  by_cases h:i=j
  · subst h;simp
  ·
   rw[zeL h,cond_false,zq3 asv (i+1) j]
   by_cases h2:i+1≤j
   · rw[if_pos h2,if_pos (by omega),show j - i=(j - (i+1))+1 by omega];rfl
   · rw[if_neg h2,if_neg (by omega)]
end Go.Ab
