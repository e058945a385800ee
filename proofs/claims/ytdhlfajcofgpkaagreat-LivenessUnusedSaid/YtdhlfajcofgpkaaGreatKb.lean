/-
  Part 2 of the proof: how the calls of this program run, over values instead of memory, and what each function computes.
-/
import Derived.MapKept
import Derived.Carry
import Derived.Laws.BytesString
import Derived.Laws.Strings
import Derived.Laws.StructEq
import Derived.Maps.RangeRun
import Derived.ChangeKeysEq
import Derived.Lib.AppendZeros
import Derived.Test.YtdhlfajcofgpkaaGreatKa
set_option maxRecDepth 100000
set_option linter.unusedVariables false
set_option linter.unusedSimpArgs false
set_option linter.unnecessarySimpa false
set_option linter.unusedSectionVars false
open Option renaming bind_eq_some_iff→Wa,bind_eq_bind→Wb,map_eq_some_iff→Wd,bind_some→WA,map_some→WL,pure_def→WS,isSome_iff_exists→WX,getD_some→W6
open Option.some renaming injEq→Wc
open Nat renaming le_refl→We,lt_succ_self→Wm,zero_le→Wn,mul_one→Wo,le_succ→Wp,add_mul→Wq,zero_add→Wx,sub_zero→Wz,mul_pos→WH,mul_le_mul_right→WI,add_sub_cancel_left→WN,pos_of_ne_zero→W0
open Array renaming toArray_toList→Wf,getElem?_eq_getElem→Wh,getElem?_toList→Wk,getElem?_eq_some_iff→Wl,length_toList→Wr,getElem?_modify→Ws,getD_eq_getD_getElem?→WT,getElem?_append_left→WY,toList_map→WZ,getElem?_push→W5,toList_eraseIdxIfInBounds→W8,eq_empty_of_size_eq_zero→Wab,getElem_mem→Wae,getElem_of_mem→Waf,mem_filter→Wag
open Prod.mk renaming injEq→Wg
open List renaming getElem?_eq_getElem→Wi,getElem?_cons_succ→Wj,getD_cons_succ→Wt,getD_cons_zero→Wu,getElem?_map→Ww,getElem?_eq_some_iff→Wy,getElem?_append_left→WB,getElem?_append_right→WC,getElem?_toArray→WD,mapM_cons→WE,length_map→WG,map_cons→WJ,eq_nil_of_length_eq_zero→WK,drop_eq_getElem_cons→WM,getElem?_cons_zero→WO,getElem?_eraseIdx→WP,getElem_mem→WU,getElem_of_mem→WV,getD_eq_getElem?_getD→WW,drop_of_length_le→W3,getElem?_set→W7,length_eraseIdx→W9,length_drop→Waa,mem_of_getElem?→Wad
open Bool renaming eq_iff_iff→Wv,and_eq_true→WF,and_assoc→WQ,and_true→WR,false_eq_true→W4,not_eq_true'→Wac
namespace Go.Ab
open Go.RowKit
section
variable {P:Program} {w:World} {L:Nat→Prop} {ι:Inj} {H:AH} {nx:Nat} {M:Nat→Prop}
theorem zkD (a b:ByteArray):(a.toList == b.toList)=decide (a=b):=by rw[Wv,decide_eq_true_iff,beq_iff_eq,ByteArray.toList_eq,ByteArray.toList_eq];exact⟨Go.WideShapes.bytes_inj,fun h=>by rw[h]⟩
theorem zBM {t:TypeId} {neg:Bool} {x y:Operand} {xv yv:Value} {a b:AV} (hx:VR w (Lt L ι H) ι xv a) (hy:VR w (Lt L ι H) ι yv b) (hs:(seqR neg a b H nx).side) :
  zaA P w L ι H nx (do eqGuard (bif neg then .neq else .eql) t x y xv yv;binOp (bif neg then .neq else .eql) t xv yv) (seqR neg a b H nx):=by
 cases hx with
 |
  str _ s h1 =>
  cases hy with
  |
   str _ u h2 =>
   simp only[seqR];cases neg
   ·
    refine⟨.bool (s.toList == u.toList),?_,?_,rfl,rfl,trivial⟩
    · simp[Sem.run_bind,eqGuard,binOp,Op.stringOp]
    · rw[zkD];exact .bool _ _
   ·
    refine⟨.bool (!(s.toList == u.toList)),?_,?_,rfl,rfl,trivial⟩
    · simp[Sem.run_bind,eqGuard,binOp,Op.stringOp]
    · rw[zkD];exact .bool _ _
  | _=>simp[seqR,bad] at hs
 | _=>cases b<;>simp[seqR,bad] at hs
theorem ztT {s:ByteArray} {i:Nat} (h:i < s.size):zug s i=(s[i]'h).toNat:=by
 unfold zug
 have:s.data.toList.getD i 0=s[i]'h:=by rw[WW,Wk,Wh h];rfl
 rw[this]
theorem zxX (n:UInt8):InR .u8 (n.toNat:Int):=by have:=n.toNat_lt;simp only[InR,IntKind.min,IntKind.max,IntKind.signed,IntKind.bits,if_false];exact⟨by omega,by simp;omega⟩
theorem zEI {t:TypeId} {xv iv:Value} {x i:AV} (hu:P.underlying t=some .string) (hx:VR w (Lt L ι H) ι xv x) (hi:VR w (Lt L ι H) ι iv i) (hs:(zsF x i H nx).side) :
  zaA P w L ι H nx (Instr.index t xv iv) (zsF x i H nx):=by
 cases hx with
 |
  str _ s h1 =>
  cases hi with
  |
   int _ k n h2 =>
   simp only[zsF] at hs ⊢
   have hlt:n.toNat < s.size:=by omega
   refine⟨.int .u8 (zug s n.toNat),?_,?_,rfl,rfl,trivial⟩
   ·
    rw[run_index_string w t s k n hu,dif_pos ⟨hs.1,hs.2⟩,ztT hlt]
    try rfl
   · rw[ztT hlt];exact .int _ _ _ (zxX _)
  | _=>simp[zsF,bad] at hs
 | _=>cases i<;>simp[zsF,bad] at hs
theorem zCZ {mx:Bool} {ts:Array TypeId} {ty:TypeId} {xv yv:Value} {x y:AV} (hx:VR w (Lt L ι H) ι xv x) (hy:VR w (Lt L ι H) ι yv y) (hs:(minR mx x y H nx).side) :
  zaA P w L ι H nx (bif mx then Builtin.max_ ts ty #[xv,yv] else Builtin.min_ ts ty #[xv,yv]) (minR mx x y H nx):=by
 cases hx with
 |
  int _ k a h1 =>
  cases hy with
  |
   int _ k' b h2 =>
   simp only[minR] at hs ⊢;subst hs;cases mx
   · exact⟨.int k (if b < a then b else a),by simp[Builtin.min_,Builtin.min2],(by split<;>exact .int _ _ _ ‹_›),rfl,rfl,trivial⟩
   · exact⟨.int k (if a < b then b else a),by simp[Builtin.max_,Builtin.max2],(by split<;>exact .int _ _ _ ‹_›),rfl,rfl,trivial⟩
  | _=>simp[minR,bad] at hs
 | _=>cases y<;>simp[minR,bad] at hs
theorem zte (l:List UInt8):LR w M ι 1 (l.map fun b=>Value.int .u8 b.toNat) (l.map zj7):=by
 refine⟨by simp,fun i c h=>?_,fun v h=>?_,fun i c j a hi hj=>?_⟩
 · rw[Ww] at h;obtain⟨b,_,rfl⟩:=Wd.1 h;rfl
 · obtain⟨b,_,rfl⟩:=List.mem_map.1 h;rfl
 ·
  rw[Ww] at hi;obtain⟨b,hb,rfl⟩:=Wd.1 hi
  cases j with
  |
   zero =>
   cases hj;exact⟨.int .u8 b.toNat,by rw[Wo,Nat.add_zero,Ww,hb];rfl,rfl,.int _ _ _ (zxX b)⟩
  | succ j=>cases hj
theorem zit {e:TypeId} (h:zlr P e=true):P.underlying e=some (.int .u8)∧∃i,P.info? e=some i∧i.size=1∧i.bytes=1∧zgp P e=some [.int .u8 0]:=by
 unfold zlr at h;simp only[WF] at h;obtain⟨⟨h1,h2⟩,h3⟩:=h;refine⟨?_,?_⟩
 ·
  split at h1
  · assumption
  · cases h1
 ·
  split at h2
  ·
   rename_i i hi;simp only[WF,beq_iff_eq] at h2;refine⟨i,hi,h2.1,h2.2,?_⟩;split at h3
   · rename_i n hz;rw[hz];simp only[beq_iff_eq] at h3;rw[h3]
   · cases h3
  · cases h2
theorem zEF {t tx ty e:TypeId} {xv yv:Value} {x y:AV} (rel:RelH w L ι H nx) (ht:P.underlying t=some (.slice e)) (htx:P.underlying tx=some .string) (hb:zlr P e=true)
  (hx:VR w (Lt L ι H) ι xv x) (hy:VR w (Lt L ι H) ι yv y) (hs:(znb x y H nx).side):zd5 P w L ι H nx (Builtin.append_ #[t,tx] ty #[xv,yv]) (znb x y H nx):=by
 obtain⟨_,i,hi,h1,h2,hz⟩:=zit hb;obtain⟨i',zv,hi',hzv,hzs,_,_⟩:=zfL hz;rw[hi] at hi';cases hi'
 have hpos:0 < i.size:=by omega
 have hby:0 < i.bytes:=by omega
 cases hy with
 |
  str _ s hsz =>
  have src:Src P i.size tx (.string s) s.size (byteCells s) w:=by rw[h1];exact Src.ofString w htx s
  have lr:LR w (Lt L ι H) ι i.size (byteCells s) (s.data.toList.map zj7):=by rw[h1];exact zte _
  have hnl:(s.data.toList.map zj7).length=s.size:=by rw[WG,Wr];rfl
  have nilcase:∀a:Option Addr,xv=.slice a 0 0→s.size≤140737488355328 →
    zd5 P w L ι H nx (Builtin.append_ #[t,tx] ty #[xv,.string s]) ⟨s.size≤140737488355328,True,.own nx 0 0 0 s.size,H.set nx 0 (.row 1 (s.data.toList.map zj7) 0),nx+1⟩:=by
   rintro a rfl hbd
   obtain⟨v,w',l,h4,h5,h6⟩:=zii (ty:=ty) (base:=a) (n:=0) (c:=0) (r:=nx) (q:=0) (g:=0) (nx':=nx+1) rel ht hi hzv hzs hpos hby (rel.sok _) (Wm _) (Wp _) (rel.freshI 0 0)
    (fun g2 l2 h=>by rw[rel.freshI] at h;cases h) (LR.nil i.size) rfl (We _) (fun h=>by omega) (fun h=>by omega) (Wn _) src lr hnl (by rw[h2];simpa using hbd)
   rw[h1] at h5 h6;refine⟨v,w',_,h4,h5,?_,trivial⟩
   simpa using h6
  cases hx with
  |
   own _ r q g off n a c l hl hmx hn hc ha =>
   cases hg:H.get r q with
   | none=>simp[znb,hg,bad] at hs
   |
    some o =>
    cases o with
    | fam sz ins=>simp[znb,hg,bad] at hs
    |
     row sz' els g' =>
     simp only[znb,hg] at hs ⊢;obtain⟨rfl,rfl,hle,hbd⟩:=hs;obtain⟨l',hl',ok⟩:=rel.row _ _ _ _ _ hg;rw[hl] at hl';cases hl'
     have hlen:((els.drop off).take n).length=n:=by simp;omega
     have ok':=ok;rw[←h1] at ok'
     obtain⟨ovs,h4,h5⟩:=LR.ofCells (w:=w) (M:=Lt L ι H) (ι:=ι) (b:=l.block) (o:=l.off+off * l.sz) hlen (sz:=i.size) (fun i c h=>ok'.wide _ _ (zcS h).2) (fun p c j x hi hj=>by
      obtain⟨h5,h6⟩:=zcS hi;obtain⟨v,h7,h8,h9⟩:=ok'.holds hmx _ c j x h6 hj;refine⟨v,?_,h8,h9⟩;rw[ok'.hsz,show l.off+off * i.size+p * i.size+j=l.off+(off+p) * i.size+j by rw[Wq];omega]
      exact h7)
     have hnone:ι r q (g+1)=none:=by
      cases hq:ι r q (g+1) with
      | none=>rfl
      | some l2=>have:=rel.gen r q _ _ _ hg _ _ hq;omega
     have hg':H.get r q=some (.row i.size els g):=by rw[h1];exact hg
     obtain⟨v,w',l2,h6,h7,h8⟩:=zii (ty:=ty) (base:=a) (n:=n) (c:=c) (r:=r) (q:=q) (g:=g+1) (nx':=nx) rel ht hi hzv hzs hpos hby (.inl ⟨_,_,hg'⟩) (rel.idx _ _ _ _ hl) (We _) hnone
      (fun g2 l2 h=>Nat.le_succ_of_le (rel.gen r q _ _ _ hg _ _ h)) h4 hlen hn (fun hcp=>by
       refine⟨l.block,l.off+off * l.sz,ha hcp,⟨i.size,els,g,l,hg',hl,?_,rfl⟩,fun k hk=>?_,h5⟩
       · rw[ok'.hsz];exact WH (by omega) hpos
       ·
        have hcc:(off+c) * i.size≤l.cap * i.size:=WI _ hc;rw[Wq] at hcc;have:=(ok'.plain hmx).there (off * i.size+k) (by omega);rw[ok'.hsz,Nat.add_assoc]
        exact this) (fun hcp b o he=>by
       have:=ha hcp;rw[he] at this;cases this
       exact(ok'.plain hmx).fz (WH (by omega) hpos)) (by omega) src lr hnl (by rw[h2,Wo];exact hbd)
     rw[h1] at h7 h8;exact⟨v,w',_,h6,h7,h8,trivial⟩
  | nilsl _=>exact nilcase none rfl hs
  | cut _ a=>exact nilcase a rfl hs
  | _=>simp[znb,bad] at hs
 | _=>cases x<;>simp[znb,bad] at hs
end
section
variable {P:Program} {w:World} {L:Nat→Prop} {ι:Inj} {H:AH} {nx:Nat} {M:Nat→Prop}
theorem zsr:∀(l:List UInt8) (s:ByteArray),(l.map fun b=>(b.toNat:Int)).foldl (fun r n=>r.push (UInt8.ofNat n.toNat)) s=⟨(s.data.toList++l).toArray⟩
 | [],s=>by simp
 |
  b::l,s=>by
  simp only[WJ,List.foldl_cons];rw[zsr l]
  have e:UInt8.ofNat ((b.toNat:Int)).toNat=b:=by simp
  rw[e]
  congr 1
  simp[ByteArray.push]
theorem zpk:∀ {els:List (List AV)} {l:List UInt8},zez els=some l→l.length=els.length
 | [],l,h=>by cases h;rfl
 |
  c::r,l,h=>by
  unfold zez at h;split at h
  · obtain⟨l',h1,rfl⟩:=Wd.1 h;simp[zpk h1]
  · cases h
theorem LR.bytes:∀ {els:List (List AV)} {vs:List Value} {l:List UInt8},LR w M ι 1 vs els→zez els=some l→vs=l.map fun b=>Value.int .u8 (b.toNat:Int)
 |
  [],vs,l,h,hl=>by
  cases hl;have:=h.size;exact WK (by simpa using this)
 |
  c::r,vs,l,h,hl=>by
  unfold zez at hl;split at hl
  ·
   rename_i n;obtain⟨l',h1,rfl⟩:=Wd.1 hl
   cases vs with
   | nil=>have:=h.size;simp at this
   |
    cons v vs =>
    obtain⟨v',h2,h3,h4⟩:=h.rel 0 _ 0 _ rfl rfl;simp at h2;subst h2
    cases h4 with
    |
     int _ _ _ hr =>
     have hr':0≤n∧n≤255:=hr
     have tl:LR w M ι 1 vs r:=by refine⟨by have:=h.size;simp at this ⊢;omega,fun i c hi=>h.wide (i+1) c (by simpa using hi),fun v hv=>h.one v (by simp[hv]),fun i c j a hi hj=>?_⟩;obtain⟨v,h5,h6,h7⟩:=h.rel (i+1) c j a (by simpa using hi) hj;refine⟨v,?_,h6,h7⟩;rw[show (i+1) * 1+j=(i * 1+j)+1 by omega,Wj] at h5;exact h5
     rw[LR.bytes tl h1];simp only[WJ,List.cons.injEq,Value.int.injEq,true_and,and_true];rw[UInt8.toNat_ofNat'];omega
  · cases hl
theorem zG3 {t d e:TypeId} {xv:Value} {x:AV} (rel:RelH w L ι H nx) (ht:P.underlying t=some (.slice e)) (hd:P.underlying d=some .string) (hb:zlr P e=true) (hx:VR w (Lt L ι H) ι xv x) (hs:(b2sR x H nx).side) :
  zaA P w L ι H nx (convert t d xv) (b2sR x H nx):=by
 obtain⟨he8,i,hi,h1,h2,hz⟩:=zit hb;unfold b2sR at hs ⊢
 cases he:zdU 1 x H with
 | none=>simp[he,bad] at hs
 |
  some els =>
  cases hl:zez els with
  | none=>simp[he,hl,bad] at hs
  |
   some l =>
   simp only[he,hl] at hs ⊢;obtain⟨hf,hlen⟩:=hs;obtain⟨m,hm⟩:=WX.1 hlen;obtain⟨vs,hsrc,lr,hnl⟩:=zBg rel ht (Wm 0) hx he hm hf;have hvs:=lr.bytes hl;have hll:=zpk hl
   have hbig:l.length≤big:=by
    rw[hll,hnl]
    cases hx with
    | sl _ a sz n cap f V hn hb=>cases hm;exact hb
    | sl0=>cases hm;exact Wn _
    | nilsl=>cases hm;exact Wn _
    | cut=>cases hm;exact Wn _
    | own _ r q g off n a c l hl hmx hn hc ha=>cases hm;unfold maxLen at hmx;unfold big;omega
    | _=>cases hm
   have hsz:(⟨l.toArray⟩:ByteArray).size≤big:=by
    show l.toArray.size≤big
    simpa using hbig
   refine⟨.string ⟨l.toArray⟩,?_,.str _ _ hsz,rfl,rfl,hsz⟩
   have conv:∀xv',xv=xv'→(∃a n c,xv'=.slice a n c)→(convert t d xv').run P w=(Conv.bytesToString xv').run P w:=by
    rintro xv' _ ⟨a,n,c,rfl⟩
    cases a<;>simp[convert,Sem.run_bind,run_underlying ht,run_underlying hd,run_underlying he8]
   have hshape:∃a n c,xv=.slice a n c:=by
    cases hx<;>simp only[lenV] at hm<;>first | (cases hm;done)|exact⟨_,_,_,rfl⟩
   obtain⟨a,n,c,rfl⟩:=hshape;rw[conv _ rfl ⟨a,n,c,rfl⟩];have hc:=hsrc.cells;have hle:=hsrc.len w;simp[Builtin.lenOf] at hle;subst hle
   cases a with
   |
    none =>
    simp[Builtin.firstCells] at hc;rw[hvs] at hc
    have:l=[]:=by
     cases l with
     | nil=>rfl
     | cons b l=>simp at hc
    subst this;simp[Conv.bytesToString];rfl
   |
    some a =>
    have hc':(loadCells a n).run P w=.ok ((l.map fun b=>(b.toNat:Int)).map (Value.int .u8)).toArray w:=by simp only[Builtin.firstCells,Wo] at hc;rw[hc,hvs,List.map_map];rfl
    rw[run_bytesToString w a n c _ hc',zsr];simp
theorem zlN (a:Addr) (n:Nat) (x:Addr):(w.freeze a n).cell? x=w.cell? x:=by
 unfold World.freeze
 by_cases hn:n=0
 · rw[if_pos hn]
 ·
  rw[if_neg hn];unfold World.cell?;simp only[Ws]
  by_cases h:a.block=x.block
  ·
   rw[if_pos h]
   cases hh:w.heap[x.block]? with
   | none=>rfl
   | some o=>cases o<;>rfl
  · rw[if_neg h]
theorem zoe {a:Addr} {n b:Nat} (h:b≠a.block):(w.freeze a n).heap[b]? = w.heap[b]? := by
 unfold World.freeze;split
 · rfl
 · simp only[Ws];rw[if_neg (Ne.symm h)]
theorem zqm {a:Addr} {n:Nat}:(w.freeze a n).heap.size=w.heap.size:=by
 unfold World.freeze
 split<;>simp
theorem zry {b lo hi:Nat} {c:Array Value} {e:TypeId} (hb:w.heap[b]? = some (.cells c e (lo,hi))) (hf:lo=hi∨c.size≤lo) :
  ∃lo' hi',(w.freeze ⟨b,c.size,none⟩ 1).heap[b]? = some (.cells c e (lo',hi'))∧c.size≤lo':=by
 unfold World.freeze;rw[if_neg (by decide)];simp only[Ws,if_true,hb,WL]
 by_cases h:lo=hi
 · refine⟨c.size,c.size+1,?_,We _⟩;simp[h]
 · have:=hf.resolve_left h;refine⟨min lo c.size,max hi (c.size+1),?_,by omega⟩;simp[h]
theorem zrS {w':World} {b lo hi:Nat} {c:Array Value} {e:TypeId} (hb:w'.heap[b]? = some (.cells c e (lo,hi))) (hl:c.size≤lo) {x:Nat} (hx:(w'.cell? ⟨b,x,none⟩).isSome=true):w'.frozen? ⟨b,x,none⟩=false:=by unfold World.cell? at hx;unfold World.frozen?;rw[hb] at hx ⊢;simp at hx;simp;omega
theorem zhI {a:Addr} {c:Array Value} {e:TypeId} {fr:Nat × Nat} (hb:w.heap[a.block]? = some (.cells c e fr)):(markStringish a).run P w=.ok () (w.freeze ⟨a.block,c.size,none⟩ 1):=by
 have hs:w.shape? a.block=some (e,c.size):=by unfold World.shape?;rw[hb]
 have hr:(shape a.block).run P w=.ok (some (e,c.size)) w:=by show Result.ok (w.shape? a.block) w=_;rw[hs]
 simp[markStringish,Sem.run_bind,hr]
theorem zEl {t e:TypeId} {xv:Value} {x:AV} (rel:RelH w L ι H nx) (ht:P.underlying t=some (.slice e)) (hb:zlr P e=true) (hx:VR w (Lt L ι H) ι xv x) (hs:(zoJ x H nx).side) :
  zd5 P w L ι H nx (convert t t xv) (zoJ x H nx):=by
 obtain⟨he8,i,hi,h1,h2,hz⟩:=zit hb
 cases hx with
 |
  own _ r q g off n a c l hl hmx hn hc ha =>
  cases hg:H.get r q with
  | none=>simp[zoJ,hg,bad] at hs
  |
   some o =>
   cases o with
   | fam sz ins=>simp[zoJ,hg,bad] at hs
   |
    row sz els g' =>
    simp only[zoJ,hg] at hs ⊢;obtain⟨rfl,rfl,hn0⟩:=hs;obtain⟨l',hl',ok⟩:=rel.row _ _ _ _ _ hg;rw[hl] at hl';cases hl';have had:=ha (by omega);subst had
    have hcap:0 < l.cap * l.sz:=by rw[ok.hsz];omega
    have hpl:=ok.plain hmx;have h0:=hpl.there 0 (by rw[←ok.hsz];exact hcap)
    have hblk:∃cs e0 lo hi,w.heap[l.block]? = some (.cells cs e0 (lo,hi)):=by
     have:=h0.1;unfold World.cell? at this
     cases hh:w.heap[l.block]? with
     | none=>rw[hh] at this;cases this
     |
      some o =>
      rw[hh] at this
      cases o<;>simp at this
      rename_i cs e0 fr;exact⟨cs,e0,fr.1,fr.2,rfl⟩
    obtain⟨cs,e0,lo,hi',hblk⟩:=hblk;obtain⟨lo',hi2,hnew,hle⟩:=zry hblk (hpl.fz (by rw[←ok.hsz];exact hcap) _ _ _ _ hblk)
    have c1:Chg w ι H r q g l (w.freeze ⟨l.block,cs.size,none⟩ 1):=by refine⟨by unfold World.freeze;rfl,by unfold World.freeze;rfl,by unfold World.freeze;rfl,by rw[zqm];exact We _,fun b hb hn=>?_,fun hp=>.inl ⟨1,els,g,l,hg,hl,hp,rfl⟩,fun l0 h0=>by rw[hl] at h0;cases h0;rfl,fun g2 l2 h2=>rel.gen r q _ _ _ hg g2 l2 h2⟩;exact zoe (fun e=>hn ⟨1,els,g,l,hg,hl,hcap,e.symm⟩)
    have hst:=c1.step (.inl ⟨_,_,hg⟩) rel (rel.idx _ _ _ _ hl) (We _) (sz:=1) (els:=els) (.mk' ok.hsz hpl.len hmx (fun k hk=>by
     have:=hpl.there k hk
     have hc:((w.freeze ⟨l.block,cs.size,none⟩ 1).cell? ⟨l.block,l.off+k,none⟩).isSome=true:=by rw[zlN];exact this.1
     exact⟨hc,zrS hnew hle hc⟩) (fun _ c e lo hi hh=>by
      rw[hnew] at hh;cases hh
      exact .inr hle) ok.wide (fun i c j a hi hj=>by
     obtain⟨v,h3,h4,h5⟩:=ok.holds hmx i c j a hi hj
     exact⟨v,by rw[zlN];exact h3,h4,c1.vr (.inl ⟨_,_,hg⟩) rel h5⟩))
    refine⟨_,_,_,?_,hst,c1.vr (.inl ⟨_,_,hg⟩) rel (.own ι r q g off n _ c l hl hmx hn hc (fun _=>rfl)),trivial⟩;simp[convert,Sem.run_bind,run_underlying ht,run_underlying he8,zhI (a:=⟨l.block,l.off+off * l.sz,none⟩) hblk]
 | _=>simp[zoJ,bad] at hs
theorem zGO {t d e:TypeId} {xv:Value} {x:AV} (rel:RelH w L ι H nx) (ht:P.underlying t=some .string) (hd:P.underlying d=some (.slice e)) (hb:zlr P e=true) (hx:VR w (Lt L ι H) ι xv x) (hs:(s2bR x H nx).side) :
  zd5 P w L ι H nx (convert t d xv) (s2bR x H nx):=by
 obtain⟨he8,i,hi,h1,h2,hz⟩:=zit hb
 cases hx with
 |
  str _ s hsz =>
  simp only[s2bR]
  have hml:s.size≤maxLen:=by unfold maxLen;unfold big at hsz;omega
  have hge:=grownCap_ge w s.size 0 e;have hgm:=grownCap_le_maxLen w s.size 0 e hml;generalize hcap:grownCap w s.size 0 e=cap at hge hgm;generalize hcs:(s.data.map fun b=>Value.int .u8 b.toNat)++Array.replicate (cap - s.size) (Value.int .u8 0)=cs
  have hcl:cs.size=cap:=by rw[←hcs];simp;show s.size+_=_;omega
  have hheap:(w.drew.alloc (.cells cs e)).heap[w.heap.size]? = some (.cells cs e (0,0)):=by have:(w.drew.alloc (.cells cs e)).heap=w.heap.push (.cells cs e):=rfl;rw[this];simp
  obtain⟨lo',hi2,hnew,hle⟩:=zry hheap (.inl rfl)
  have hcell:∀k,((w.drew.alloc (.cells cs e)).freeze ⟨w.heap.size,cs.size,none⟩ 1).cell? ⟨w.heap.size,k,none⟩=cs[k]? := fun k=>by rw[zlN];exact World.cell?_alloc_new w.drew _ _ k
  have c1:Chg w ι H nx 0 0 ⟨w.heap.size,0,cap,1⟩ ((w.drew.alloc (.cells cs e)).freeze ⟨w.heap.size,cs.size,none⟩ 1) :=
   ⟨by unfold World.freeze;rfl,by unfold World.freeze;rfl,by unfold World.freeze;rfl,by rw[zqm];simp,fun b hb _=>by rw[zoe (by show b≠w.heap.size;omega)];exact Below.heap_alloc w.drew _ b hb,fun _=>.inr (We _),
    fun l0 h0=>(by rw[rel.freshI] at h0;cases h0),fun g2 l2 h2=>(by rw[rel.freshI] at h2;cases h2)⟩
  have hlen:(s.data.toList.map zj7).length=s.size:=by rw[WG,Wr];rfl
  have hst:=c1.step (rel.sok 1) rel (Wm _) (Wp _) (els:=s.data.toList.map zj7) (.mk' rfl (by rw[hlen];exact hge) hgm (fun k hk=>by
   have hk':k < cap:=by simpa using hk
   have hc:(((w.drew.alloc (.cells cs e)).freeze ⟨w.heap.size,cs.size,none⟩ 1).cell? ⟨w.heap.size,0+k,none⟩).isSome=true:=by rw[Wx,hcell,Wh (by omega)];rfl
   exact⟨hc,zrS hnew hle hc⟩) (fun _ c e lo hi hh=>by
    rw[hnew] at hh;cases hh
    exact .inr hle) (fun i c hi=>(zte (w:=w) (M:=Lt L ι H) (ι:=ι) s.data.toList).wide i c hi) (fun k c j a hk hj=>by
   obtain⟨v,h3,h4,h5⟩:=(zte (w:=w) (M:=Lt L ι H) (ι:=ι) s.data.toList).rel k c j a hk hj;refine⟨v,?_,h4,c1.vr (rel.sok 1) rel h5⟩;show World.cell? _ ⟨w.heap.size,0+k * 1+j,none⟩=_;rw[Wx,hcell,←hcs];have hlt:=(Wy.1 h3).1;rw[WG,Wr] at hlt;rw[WY (by simpa using hlt),←Wk,WZ]
   exact h3))
  refine⟨.slice (some ⟨w.heap.size,0,none⟩) s.size cap,_,_,?_,hst,.own _ nx 0 0 0 s.size _ cap _ (Inj.put_same _ _ _ _ _) hgm hge (by simp) (fun _=>by simp),trivial⟩;have hm:=zhI (P:=P) (a:=⟨w.heap.size,0,none⟩) hheap;simp[convert,Sem.run_bind,run_underlying ht,run_underlying hd,run_underlying he8,Conv.stringToBytes,Question.forced,zbT];simp only[grownCap] at hcap;rw[hcap,hcs,hm];rfl
 | _=>simp[s2bR,bad] at hs
end
section
variable {P:Program} {w:World} {L:Nat→Prop} {ι:Inj} {H:AH} {nx:Nat} {M:Nat→Prop}
theorem ziS {k k':IntKind} {b c:Int} {n cap:Nat} (h0:0≤b) (h1:b≤c) (h2:c≤cap) :
  (Instr.sliceBounds true n cap none (some (.int k b)) (some (.int k' c))).run P w=.ok (0,b.toNat,c.toNat) w:=by
 have h3:0≤c:=by omega
 have h4:b≤(c.toNat:Int):=by omega
 simp[Instr.sliceBounds,Instr.sliceBound,asIntOf,h0,h2,h3];omega
theorem zG0 {t e:TypeId} {i:TypeInfo} {xv hv mv:Value} {x h m:AV} (rel:RelH w L ι H nx) (hu:P.underlying t=some (.slice e)) (hinf:P.info? e=some i)
  (hx:VR w (Lt L ι H) ι xv x) (hh:VR w (Lt L ι H) ι hv h) (hm:VR w (Lt L ι H) ι mv m) (hs:(sl3R i.size x h m H nx).side) :
  zaA P w L ι H nx (Instr.sliceAt t xv none (some hv) (some mv)) (sl3R i.size x h m H nx):=by
 cases hh with
 |
  int _ k b hb =>
  cases hm with
  |
   int _ k' c hc =>
   cases hx with
   |
    sl _ ad sz n cap f V hn hbg hcc hL hv =>
    simp only[sl3R] at hs ⊢;obtain⟨rfl,h0,h1,h2⟩:=hs;refine⟨_,zb9 hu hinf (ziS h0 h1 (by omega)),?_,rfl,rfl,trivial⟩;simp only[Wz,Nat.zero_mul]
    have key:∀ad':Addr,ad'=ad→VR w (Lt L ι H) ι (.slice (some ad') b.toNat c.toNat) (.sl i.size b.toNat f):=by
     rintro ad' rfl
     exact .sl _ _ _ _ _ _ V (by omega) (by omega) (fun q j hq hj=>hcc q j (by omega) hj) (fun hp=>hL (by
      have hq:0 < b.toNat:=W0 (fun h=>by rw[h] at hp;simp at hp);have hz:0 < i.size:=W0 (fun h=>by rw[h] at hp;simp at hp)
      exact WH (by omega) hz)) (fun q j hq hj=>hv q j (by omega) hj)
    split
    · exact key _ rfl
    · exact key _ (by simp[Addr.add])
   |
    sl0 _ sz f =>
    simp only[sl3R] at hs ⊢;obtain⟨rfl,h0,h1,h2⟩:=hs
    have hb0:b=0:=by simp at h2;omega
    have hc0:c=0:=by simp at h2;omega
    subst hb0 hc0;refine⟨_,zb9 hu hinf (ziS h0 h1 (by omega)),?_,rfl,rfl,trivial⟩;simp;exact .sl0 _ _ _
   |
    nilsl _ =>
    simp only[sl3R] at hs ⊢;obtain⟨rfl,rfl⟩:=hs;refine⟨_,zb9 hu hinf (ziS (by omega) (by omega) (by omega)),?_,rfl,rfl,trivial⟩;simp;exact .nilsl _
   |
    own _ r q g off n a cp l hl hmx hn hcl ha =>
    cases hg:H.get r q with
    | none=>simp[sl3R,hg,bad] at hs
    |
     some o =>
     cases o with
     | fam sz ins=>simp[sl3R,hg,bad] at hs
     |
      row sz els g' =>
      simp only[sl3R,hg] at hs ⊢;obtain⟨rfl,rfl,h0,h1,h2⟩:=hs;refine⟨_,zb9 hu hinf (ziS h0 h1 (by omega)),?_,rfl,rfl,trivial⟩;simp only[Wz,Nat.zero_mul]
      have key:∀a':Option Addr,a'=a→VR w (Lt L ι H) ι (.slice a' b.toNat c.toNat) (.own r q g off b.toNat):=by rintro a' rfl;exact .own _ r q g off _ _ c.toNat l hl hmx (by omega) (by omega) (fun hp=>ha (by omega))
      split
      · exact key _ rfl
      · exact key _ (by cases a<;>simp[Addr.add])
   | _=>simp[sl3R,bad] at hs
  | _=>simp[sl3R,bad] at hs
 | _=>cases m<;>simp[sl3R,bad] at hs
theorem znS {t:TypeId} {s:Nat} {cs:Array Value} {i:Nat} {v:Value} (ht:zop P t=some s) (hv:cs[i]? = some v):(part t cs i).run P w=.ok v w:=by
 unfold zop at ht
 split at ht<;>first | (cases ht;done)|skip
 all_goals
  rename_i hu;have hr:(isAgg t).run P w=.ok false w:=zdX hu w;simp[part,Sem.run_bind,hr,hv]
theorem ziT {s:List Nat} {a b:AV} {l m:List AV} {t:Bool} (h:zS (0::s) (a::l) (b::m)=some t):∃k x y t',a=.int k x∧b=.int k y∧zS s l m=some t'∧t=(decide (x=y)&&t'):=by
 unfold zS at h;split at h
 all_goals first
  | (cases h;done)
  | (rename_i e1 e2 e3;cases e1;done)
  | skip
 ·
  rename_i k x l1 k' y m1 e1 e2 e3;cases e1;cases e2;cases e3;split at h
  · rename_i hk;obtain⟨t',h1,h2⟩:=Wd.1 h;exact⟨_,_,_,t',rfl,by rw[hk],h1,h2.symm⟩
  · cases h
theorem zim {s:List Nat} {a b:AV} {l m:List AV} {t:Bool} (h:zS (1::s) (a::l) (b::m)=some t):∃x y t',a=.str x∧b=.str y∧zS s l m=some t'∧t=(decide (x=y)&&t'):=by
 unfold zS at h;split at h
 all_goals first
  | (cases h;done)
  | (rename_i e1 e2 e3;cases e1;done)
  | skip
 · rename_i e1 e2 e3;cases e1;cases e2;cases e3;obtain⟨t',h1,h2⟩:=Wd.1 h;exact⟨_,_,t',rfl,rfl,h1,h2.symm⟩
theorem zgM {s:List Nat} {a b:AV} {l m:List AV} {t:Bool} (h:zS (2::s) (a::l) (b::m)=some t):∃x y t',a=.bool x∧b=.bool y∧zS s l m=some t'∧t=((x == y)&&t'):=by
 unfold zS at h;split at h
 all_goals first
  | (cases h;done)
  | (rename_i e1 e2 e3;cases e1;done)
  | skip
 · rename_i e1 e2 e3;cases e1;cases e2;cases e3;obtain⟨t',h1,h2⟩:=Wd.1 h;exact⟨_,_,t',rfl,rfl,h1,h2.symm⟩
theorem zlB (d:Nat) {xs ys:Array Value} {asv bs:List AV} (hx:∀(i:Nat) (v:Value) (a:AV),xs[i]? = some v→asv[i]? = some a→VR w M ι v a) (hy:∀(i:Nat) (v:Value) (a:AV),ys[i]? = some v→bs[i]? = some a→VR w M ι v a)
  (hxs:xs.size=asv.length) (hys:ys.size=bs.length):∀(fs:List Field) (i:Nat) (ss:List Nat) (t:Bool),zex P fs i=some ss→zS ss (asv.drop i) (bs.drop i)=some t →
   (Op.eqFields (d+1) xs ys fs).run P w=.ok t w
 |
  [],i,ss,t,h,he=>by
  cases h;unfold zS at he
  split at he<;>first | (cases he;simp[Op.eqFields];done) | (cases he;done)|skip
  all_goals simp_all
 |
  f::fs,i,ss,t,h,he=>by
  unfold zex at h;split at h
  ·
   rename_i hf;obtain⟨rfl,hnm⟩:=hf;split at h
   ·
    rename_i s l hs hl;cases h
    have ha:∃a,asv[f.offset]? = some a:=by
     cases h2:asv[f.offset]? with
     | some a=>exact⟨a,rfl⟩
     |
      none =>
      rw[W3 (by simpa using h2)] at he;unfold zS at he
      split at he<;>simp_all
    have hb:∃b,bs[f.offset]? = some b:=by
     cases h2:bs[f.offset]? with
     | some a=>exact⟨a,rfl⟩
     |
      none =>
      rw[W3 (l:=bs) (by simpa using h2)] at he;unfold zS at he
      split at he<;>simp_all
    obtain⟨a,ha⟩:=ha;obtain⟨b,hb⟩:=hb;have hia:=(Wy.1 ha).1;have hib:=(Wy.1 hb).1;have hxv:xs[f.offset]? = some xs[f.offset]:=Wh (by omega);have hyv:ys[f.offset]? = some ys[f.offset]:=Wh (by omega);have hax:=hx _ _ _ hxv ha;have hby:=hy _ _ _ hyv hb
    have ea:asv.drop f.offset=a::asv.drop (f.offset+1):=by rw[WM hia];congr 1;rw[Wi hia] at ha;exact Option.some.inj ha
    have eb:bs.drop f.offset=b::bs.drop (f.offset+1):=by rw[WM hib];congr 1;rw[Wi hib] at hb;exact Option.some.inj hb
    rw[ea,eb] at he
    have fin:∀(r t':Bool),(Op.equalIn (d+1) f.type xs[f.offset] ys[f.offset]).run P w=.ok r w→zS l (asv.drop (f.offset+1)) (bs.drop (f.offset+1))=some t'→t=(r&&t') →
      (Op.eqFields (d+1) xs ys (f::fs)).run P w=.ok t w:=by
     intro r t' h1 h2 h3;have ih:=zlB d hx hy hxs hys fs (f.offset+1) l t' hl h2;subst h3;simp only[Op.eqFields,if_pos hnm,Sem.run_bind,znS hs hxv,znS hs hyv,Result.andThen_ok,h1];cases r
     · simp
     · simp[ih]
    generalize xs[f.offset]=xv at hax fin;generalize ys[f.offset]=yv at hby fin;unfold zop at hs;split at hs
    · rename_i k hu;cases hs;obtain⟨k1,n1,n2,t',rfl,rfl,h3,h4⟩:=ziT he;cases hax;cases hby;exact fin _ t' (run_equalIn_int w d f.type k1 k n1 n2 hu) h3 h4
    · rename_i hu;cases hs;obtain⟨n1,n2,t',rfl,rfl,h3,h4⟩:=zim he;cases hax;cases hby;exact fin _ t' (run_equalIn_string w d f.type _ _ hu) h3 (by rw[h4,zkD])
    · rename_i hu;cases hs;obtain⟨n1,n2,t',rfl,rfl,h3,h4⟩:=zgM he;cases hax;cases hby;exact fin _ t' (run_equalIn_bool' w d f.type _ _ hu) h3 h4
    · cases hs
   · cases h
  · cases h
theorem zCo {t:TypeId} {fs:Array Field} {ss:List Nat} {neg:Bool} {x y:Operand} {xv yv:Value} {a b:AV} (hu:P.underlying t=some (.struct fs)) (hf:zex P fs.toList 0=some ss) (hst:P.stoodInHeld t=false) (hgt:P.eqGuardType P.depth t=false)
  (hx:VR w (Lt L ι H) ι xv a) (hy:VR w (Lt L ι H) ι yv b) (hs:(eqsR neg ss a b H nx).side) :
  zaA P w L ι H nx (do eqGuard (bif neg then .neq else .eql) t x y xv yv;binOp (bif neg then .neq else .eql) t xv yv) (eqsR neg ss a b H nx):=by
 cases hx with
 |
  agg _ cs asv hsz h1 hv =>
  cases hy with
  |
   agg _ ds bs hsz2 h2 hv2 =>
   unfold eqsR at hs ⊢;simp only at hs ⊢
   cases he:zS ss asv bs with
   | none=>simp[he,bad] at hs
   |
    some r =>
    simp only[he] at hs ⊢
    have hfo:P.fieldsOf t=fs:=by unfold Program.fieldsOf;rw[hu]
    have hrun:(Op.equal t (.agg cs) (.agg ds)).run P w=.ok r w:=by have:=zlB (P:=P) (w:=w) 9998 hv hv2 hsz hsz2 fs.toList 0 ss r hf (by simpa using he);show (Op.equalIn (9999+1) t (.agg cs) (.agg ds)).run P w=_;rw[run_equalIn_struct w 9999 t cs ds (by rw[hfo];exact hu) hst,hfo];exact this
    have hg:=fun(op:BinOp)=>run_eqGuard_agg (P:=P) w op t x y cs ds hgt
    cases neg
    · refine⟨.bool r,?_,.bool _ _,rfl,rfl,trivial⟩;simp[Sem.run_bind,hg,binOp,hrun]
    · refine⟨.bool (!r),?_,.bool _ _,rfl,rfl,trivial⟩;simp[Sem.run_bind,hg,binOp,hrun]
  | _=>simp[eqsR,bad] at hs
 | _=>cases b<;>simp[eqsR,bad] at hs
end
end Go.Ab
namespace Go.Ab
open Go.RowKit Go.MapKept
section
variable {P:Program} {w:World} {L:Nat→Prop} {ι:Inj} {H:AH} {nx:Nat} {M:Nat→Prop}
theorem zC9 {t:TypeId} {z:AV} (h:zyE P t=some z):∃zv,(zeroValue t).run P w=.ok zv w∧∀(w:World) (M:Nat→Prop) (ι:Inj),VR w M ι zv z:=by
 unfold zyE at h;split at h
 ·
  rename_i i hi;split at h
  · rename_i zv hz;exact⟨zv,by simp[zeroValue,typeInfo,hi,hz],fun w M ι=>zgO 2 zv z h⟩
  · cases h
 · cases h
theorem zp2:¬maxLen+1≤maxLen:=by omega
theorem zxx:¬maxLen+2≤maxLen:=by omega
theorem zBN {t:TypeId} (rel:RelH w L ι H nx):zd5 P w L ι H nx (Instr.makeMap t none) (zyp H nx):=by
 have c1:Chg w ι H nx 0 0 ⟨w.heap.size,0,maxLen+1,3⟩ (w.alloc (.map #[] 0)) :=
  ⟨rfl,rfl,rfl,by simp,fun b hb _=>Below.heap_alloc w _ b hb,fun _=>.inr (We _),fun l0 h0=>(by rw[rel.freshI] at h0;cases h0),fun g2 l2 h2=>(by rw[rel.freshI] at h2;cases h2)⟩
 have hb:(w.alloc (.map #[] 0)).heap[w.heap.size]? = some (.map #[] 0):=(by have:(w.alloc (.map #[] 0)).heap=w.heap.push (.map #[] 0):=rfl;rw[this];simp)
 have hst:=c1.step (rel.sok 3) rel (Wm _) (Wp _) (els:=[[.int .i64 0,.undef,.undef]]) (by
  refine⟨rfl,fun i c hi=>?_,fun h=>absurd h zp2,fun _=>⟨Nat.succ_pos 2,.map #[] 0,hb,rfl,by simp[zvr]⟩,fun i c j a hi hj=>?_⟩
  ·
   cases i with
   | zero=>cases hi;rfl
   | succ i=>cases hi
  ·
   cases i with
   | succ i=>cases hi
   |
    zero =>
    cases hi
    match j with
    |
     0 =>
     cases hj;exact⟨.int .i64 0,by unfold zdq;rw[if_neg zp2,hb];rfl,fun h=>absurd h zp2,.int _ _ _ (zfb (by decide) (by decide))⟩
    | 1=>cases hj;exact⟨.bool false,by unfold zdq;rw[if_neg zp2,hb];rfl,fun h=>absurd h zp2,.undef _ _⟩
    | 2=>cases hj;exact⟨.bool false,by unfold zdq;rw[if_neg zp2,hb];rfl,fun h=>absurd h zp2,.undef _ _⟩
    | j+3=>cases hj)
 exact⟨.map (some w.heap.size),_,_,run_makeMap t w,hst,.mp _ nx _ _ (Inj.put_same _ _ _ _ _) rfl,trivial⟩
theorem RowOk.map {es:List (List AV)} {l:Loc} (ok:RowOk w M ι 3 es l) (hm:l.cap=maxLen+1):∃ms clock,w.heap[l.block]? = some (.map ms clock)∧ms.size+1=es.length ∧
  ∀(i j:Nat) (c:List AV) (a:AV),es[i]? = some c→c[j]? = some a→∃v,zeq (.map ms clock) i j=some v∧VR w M ι v a:=by
 have hno:¬l.cap≤maxLen:=by omega
 obtain⟨_,o,h1,h2,h3⟩:=ok.spec hno;rw[hm,WN] at h3
 cases o<;>simp[zvr] at h3
 rename_i ms clock;refine⟨ms,clock,h1,h2,fun i j c a hi hj=>?_⟩;obtain⟨v,h4,_,h5⟩:=ok.hold i c j a hi hj;unfold zdq at h4;rw[if_neg hno,h1] at h4;exact⟨v,h4,h5⟩
theorem zpM {str:Option IntKind} {kt:TypeId} {kv:Value} {k:AV} (hk:zif P kt=some str) (ho:zgK str k) (hv:VR w M ι kv k):∃d,P.underlying kt=some d∧IsKey d kv ∧
  (∀kv2 k2 t,VR w M ι kv2 k2→zxB k k2=some t→Instr.sameNow d kv kv2=some t∧(t=true→kv2=kv))∧Instr.sameBits 10000 kv kv=true:=by
 unfold zif at hk;split at hk
 ·
  rename_i hu;cases hk
  cases hv<;>first | (cases ho;done)|skip
  rename_i s hs;refine⟨_,hu,trivial,fun kv2 k2 t h1 h2=>?_,?_⟩
  ·
   cases h1<;>simp[zxB] at h2
   rename_i u hu2;subst h2;refine⟨?_,fun h=>?_⟩
   · simp only[Instr.sameNow,Wc];rw[Wv,bytes_beq,decide_eq_true_iff]
   · rw[of_decide_eq_true h]
  · simp only[Instr.sameBits];exact(bytes_beq s s).2 rfl
 ·
  rename_i q hu;cases hk
  cases hv<;>first | (cases ho;done)|skip
  rename_i κ n hn;simp only[zgK] at ho;subst ho;refine⟨_,hu,rfl,fun kv2 k2 t h1 h2=>?_,?_⟩
  ·
   cases h1<;>simp[zxB] at h2
   rename_i κ2 n2 hn2;obtain⟨rfl,rfl⟩:=h2;refine⟨?_,fun h=>?_⟩
   · simp only[Instr.sameNow,if_true,Wc];rw[Wv,beq_iff_eq,decide_eq_true_iff]
   · rw[of_decide_eq_true h]
  · simp[Instr.sameBits]
 · cases hk
theorem zkt {d:TypeDesc} {kv:Value} {k:AV} (hk:∀kv2 k2 t,VR w M ι kv2 k2→zxB k k2=some t→Instr.sameNow d kv kv2=some t∧(t=true→kv2=kv)) :
  ∀(ms:List MapEntry) (cs:List (List AV)) (i:Nat) (r:Option (Nat × AV)),ms.length=cs.length →
   (∀(j:Nat) (e:MapEntry) (c:List AV),ms[j]? = some e→cs[j]? = some c→(∀a,c[0]? = some a→VR w M ι e.key a)∧(∀a,c[1]? = some a→VR w M ι e.val a))→zfa k cs i=some r →
   match r with
   | none=>Instr.findNow d kv ms i=some none
   | some (n,v)=>∃e,i≤n∧ms[n - i]? = some e∧Instr.findNow d kv ms i=some (some (n,e.val))∧VR w M ι e.val v∧e.key=kv
 | [],[],i,r,_,_,h=>by cases h;rfl
 | [],c::cs,i,r,hl,_,_=>by cases hl
 | e::ms,[],i,r,hl,_,_=>by cases hl
 |
  e::ms,c::cs,i,r,hl,hh,h=>by
  unfold zfa at h;split at h
  ·
   rename_i k' v u;obtain⟨h1,h2⟩:=hh 0 e _ rfl rfl;have hkey:=h1 k' rfl;have hval:=h2 v rfl;split at h
   · rename_i ht;cases h;obtain⟨h3,h4⟩:=hk _ _ _ hkey ht;exact⟨e,We _,by simp,by simp[Instr.findNow,h3],hval,h4 rfl⟩
   ·
    rename_i ht;obtain⟨h3,_⟩:=hk _ _ _ hkey ht;have ih:=zkt hk ms cs (i+1) r (by simpa using hl) (fun j e c hj hc=>hh (j+1) e c (by simpa using hj) (by simpa using hc)) h
    cases r with
    | none=>simp[Instr.findNow,h3];exact ih
    |
     some p =>
     obtain⟨n,v'⟩:=p;obtain⟨e',h5,h6,h7,h8,h9⟩:=ih;refine⟨e',by omega,?_,by simp[Instr.findNow,h3];exact h7,h8,h9⟩;rw[show n - i=(n - (i+1))+1 by omega,Wj];exact h6
   · cases h
  · cases h
theorem zeE {ms:Array MapEntry} {clock i:Nat} {e:MapEntry} (h:ms[i]? = some e):zeq (.map ms clock) (i+1) 0=some e.key∧zeq (.map ms clock) (i+1) 1=some e.val∧zeq (.map ms clock) (i+1) 2=some (.int .i64 e.born):=by simp[zeq,h]
theorem znn {ms:Array MapEntry} {clock:Nat} {hd:List AV} {cs:List (List AV)} (hh:∀(i j:Nat) (c:List AV) (a:AV),(hd::cs)[i]? = some c→c[j]? = some a→∃v,zeq (.map ms clock) i j=some v∧VR w M ι v a) :
  ∀(j:Nat) (e:MapEntry) (c:List AV),ms.toList[j]? = some e→cs[j]? = some c→(∀a,c[0]? = some a→VR w M ι e.key a)∧(∀a,c[1]? = some a→VR w M ι e.val a):=by
 intro j e c he hc;rw[Wk] at he;obtain⟨h1,h2,_⟩:=zeE (clock:=clock) he;constructor
 · intro a ha;obtain⟨v,h3,h4⟩:=hh (j+1) 0 c a (by simpa using hc) ha;rw[h1] at h3;cases h3;exact h4
 · intro a ha;obtain⟨v,h3,h4⟩:=hh (j+1) 1 c a (by simpa using hc) ha;rw[h2] at h3;cases h3;exact h4
theorem zwc {ok:Bool} {v:Value} {a:AV} {b:Bool} {z:AV} {r:Option (Nat × AV)} (hb:b=r.isSome) (ha:a=mval z r) (hv:VR w M ι v a):VR w M ι (if ok then .tuple #[v,.bool b] else v) (mgot ok z r):=by
 subst hb;unfold mgot
 cases ok with
 | false=>simp only[W4,if_false,cond_false];rw[←ha];exact hv
 |
  true =>
  simp only[if_true,cond_true];rw[←ha];refine .tup _ _ _ rfl (fun i v' a' h1 h2=>?_)
  match i with
  | 0=>cases h1;cases h2;exact hv
  | 1=>cases h1;cases h2;exact .bool _ _
  | i+2=>cases h1
theorem zC5 {t kt et:TypeId} {str:Option IntKind} {ok:Bool} {z:AV} {mv kv:Value} {m k:AV} (rel:RelH w L ι H nx) (ht:P.underlying t=some (.map kt et)) (hkk:zif P kt=some str) (hz:zyE P et=some z)
  (hm:VR w (Lt L ι H) ι mv m) (hk:VR w (Lt L ι H) ι kv k) (hs:(zgY str ok z m k H nx).side):zaA P w L ι H nx (Instr.lookup t mv kv ok) (zgY str ok z m k H nx):=by
 obtain⟨zv,hzr,hzv⟩:=zC9 (w:=w) hz
 cases hm with
 |
  nilmp =>
  simp only[zgY] at hs ⊢;obtain⟨d,hd,hik,_,_⟩:=zpM hkk hs hk;have hv:=zwc (ok:=ok) (b:=false) (z:=z) (r:=none) rfl rfl (hzv w (Lt L ι H) ι);refine⟨_,?_,hv,rfl,rfl,hv.wf⟩;have hf:(Instr.findKey kt kv (#[]:Array MapEntry).toList).run P w=.ok none w:=run_findKey hd rfl;simp only[Instr.lookup,Sem.run_bind,run_underlying ht,Result.andThen_ok,Sem.run_pure];rw[run_checkKey hd hik _ 9999];simp only[Result.andThen_ok];rw[hf];simp[hzr]
 |
  mp _ r q l hl hcap =>
  cases hg:H.get r q with
  | none=>simp[zgY,hg,bad] at hs
  |
   some o =>
   cases o with
   | fam sz ins=>simp[zgY,hg,bad] at hs
   |
    row sz els g =>
    cases els with
    | nil=>simp[zgY,hg,bad] at hs
    |
     cons hd0 cs =>
     simp only[zgY,hg] at hs ⊢
     cases hf:zfa k cs 0 with
     | none=>simp[hf,bad] at hs
     |
      some res =>
      simp only[hf] at hs ⊢;obtain⟨rfl,rfl,hko⟩:=hs;obtain⟨l',hl',okr⟩:=rel.row _ _ _ _ _ hg;rw[hl] at hl';cases hl';obtain⟨ms,clock,hb,hsz,hh⟩:=okr.map hcap;obtain⟨d,hd,hik,hsame,_⟩:=zpM hkk hko hk;have hfn:=zkt hsame ms.toList cs 0 res (by simp at hsz ⊢;omega) (znn hh) hf
      have run:∀(q:Option (Nat × Value)),Instr.findNow d kv ms.toList 0=some q→∀v b,(match q with|some (_,v')=>v=v'∧b=true|none=>v=zv∧b=false)→(Instr.lookup t (.map (some l.block)) kv ok).run P w=.ok (if ok then .tuple #[v,.bool b] else v) w:=by
       intro q hq v b hvb;have hfk:(Instr.findKey kt kv ms.toList).run P w=.ok q w:=run_findKey hd hq;simp only[Instr.lookup,Sem.run_bind,run_underlying ht,Result.andThen_ok,Sem.run_pure,Go.MapKept.run_getObj_map hb];rw[run_checkKey hd hik _ 9999];simp only[Result.andThen_ok];rw[hfk]
       cases q with
       | none=>obtain⟨rfl,rfl⟩:=hvb;simp[hzr]
       | some p=>obtain⟨n,v'⟩:=p;obtain⟨rfl,rfl⟩:=hvb;simp
      cases res with
      |
       none =>
       have hv:=zwc (ok:=ok) (b:=false) (z:=z) (r:=none) rfl rfl (hzv w (Lt L ι H) ι);exact⟨_,run none hfn zv false ⟨rfl,rfl⟩,hv,rfl,rfl,hv.wf⟩
      |
       some p =>
       obtain⟨n,v⟩:=p;obtain⟨e,_,_,h7,h8,_⟩:=hfn;have hv:=zwc (ok:=ok) (b:=true) (z:=z) (r:=some (n,v)) rfl rfl h8;exact⟨_,run _ h7 e.val true ⟨rfl,rfl⟩,hv,rfl,rfl,hv.wf⟩
 | _=>simp[zgY,bad] at hs
theorem zuj {old new:Value} (h:Instr.sameBits 10000 old new=true):(Instr.keyThatStays old new).run P w=.ok new w:=by simp[Instr.keyThatStays,h]
theorem Step.mapset {r q:Nat} {l:Loc} {els els':List (List AV)} {ms ms':Array MapEntry} {clock clock':Nat} (rel:RelH w L ι H nx) (hg:H.get r q=some (.row 3 els 0)) (hl:ι r q 0=some l) (hcap:l.cap=maxLen+1) (ok:RowOk w (Lt L ι H) ι 3 els l)
  (hb:w.heap[l.block]? = some (.map ms clock)) (hlen:ms'.size+1=els'.length) (hw:∀(i:Nat) (c:List AV),els'[i]? = some c→c.length=3)
  (hh:∀(i j:Nat) (c:List AV) (a:AV),els'[i]? = some c→c[j]? = some a→∃v,zeq (.map ms' clock') i j=some v∧VR w (Lt L ι H) ι v a) :
  Step w L ι H nx { w with heap:=w.heap.setIfInBounds l.block (.map ms' clock') } (ι.put r q 0 l) (H.set r q (.row 3 els' 0)) nx:=by
 have hpos:0 < l.cap * l.sz:=by rw[ok.hsz,hcap];omega
 have hno:¬l.cap≤maxLen:=by omega
 have c1:Chg w ι H r q 0 l { w with heap:=w.heap.setIfInBounds l.block (.map ms' clock') }:=by refine⟨rfl,rfl,rfl,by simp,fun b hb' hn=>?_,fun hp=>.inl ⟨3,els,0,l,hg,hl,hp,rfl⟩,fun l0 h0=>by rw[hl] at h0;cases h0;rfl,fun g2 l2 h2=>rel.gen r q _ _ _ hg g2 l2 h2⟩;exact(Go.MapKept.heap_set hb).2 b (fun e=>hn ⟨3,els,0,l,hg,hl,hpos,e.symm⟩)
 have hb':=(Go.MapKept.heap_set (o':=.map ms' clock') hb).1;refine c1.step (.inl ⟨_,_,hg⟩) rel (rel.idx _ _ _ _ hl) (We _) ⟨ok.hsz,hw,fun h=>absurd h hno,fun _=>⟨by rw[ok.hsz];omega,.map ms' clock',hb',hlen,by rw[hcap];simp[zvr]⟩,fun i c j a hi hj=>?_⟩;obtain⟨v,h1,h2⟩:=hh i j c a hi hj;refine⟨v,?_,fun h=>absurd h hno,c1.vr (.inl ⟨_,_,hg⟩) rel h2⟩;unfold zdq;rw[if_neg hno];simp only[hb',WA];exact h1
theorem zw1 {α:Type} {l:List α} {i:Nat} {a d:α} (h:l[i]? = some a):l.getD i d=a:=by rw[WW,h];rfl
theorem zxO {t kt et:TypeId} {str:Option IntKind} {mv kv vv:Value} {m k v:AV} (rel:RelH w L ι H nx) (ht:P.underlying t=some (.map kt et)) (hkk:zif P kt=some str)
  (hm:VR w (Lt L ι H) ι mv m) (hk:VR w (Lt L ι H) ι kv k) (hv:VR w (Lt L ι H) ι vv v) (hs:(zkW str m k v H nx).side) :
  ∃w' ι',(Instr.mapUpdate t mv kv vv).run P w=.ok () w'∧Step w L ι H nx w' ι' (zkW str m k v H nx).H (zkW str m k v H nx).nx∧(zkW str m k v H nx).fact∧(zkW str m k v H nx).v=.undef:=by
 cases hm with
 |
  mp _ r q l hl hcap =>
  cases hg:H.get r q with
  | none=>simp[zkW,hg,bad] at hs
  |
   some o =>
   cases o with
   | fam sz ins=>simp[zkW,hg,bad] at hs
   |
    row sz els g =>
    cases els with
    | nil=>simp[zkW,hg,bad] at hs
    |
     cons hd0 cs =>
     simp only[zkW,hg] at hs ⊢;split at hs
     ·
      rename_i c u u'
      cases hf:zfa k cs 0 with
      | none=>simp[hf,bad] at hs
      |
       some res =>
       have hside:sz=3∧g=0∧zgK str k:=by
        cases res with
        | none=>simp only[hf] at hs;exact⟨hs.1,hs.2.1,hs.2.2.1⟩
        | some p=>simp only[hf] at hs;exact hs
       obtain⟨rfl,rfl,hko⟩:=hside;obtain⟨l',hl',okr⟩:=rel.row _ _ _ _ _ hg;rw[hl] at hl';cases hl';obtain⟨ms,clock,hb,hsz,hh⟩:=okr.map hcap;obtain⟨d,hd,hik,hsame,hbits⟩:=zpM hkk hko hk;have hfn:=zkt hsame ms.toList cs 0 res (by simp at hsz ⊢;omega) (znn hh) hf
       have hclk:c=clock:=by obtain⟨v0,h1,h2⟩:=hh 0 0 _ _ rfl rfl;cases h1;cases h2;rfl
       subst hclk;have hgetO:=Go.MapKept.run_getObj_map (P:=P) hb;have hchk:(Instr.checkKey false 10000 kt kv).run P w=.ok () w:=run_checkKey hd hik _ 9999
       cases res with
       |
        none =>
        simp only[hf] at hs ⊢;have hfk:(Instr.findKey kt kv ms.toList).run P w=.ok none w:=run_findKey hd hfn;refine⟨_,_,?_,Step.mapset (ms':=ms.push ⟨kv,vv,clock⟩) (clock':=clock+1) rel hg hl hcap okr hb (by simp at hsz ⊢;omega) (fun i c hi=>?_) (fun i j c a hi hj=>?_),trivial,trivial⟩
        · simp only[Instr.mapUpdate,Sem.run_bind,run_underlying ht,Result.andThen_ok,hgetO,hchk,hfk,Go.MapKept.run_setObj_map _ hb]
        ·
         cases i with
         | zero=>cases hi;rfl
         |
          succ i =>
          simp only[Wj] at hi
          by_cases hlt:i < cs.length
          · rw[WB hlt] at hi;exact okr.wide (i+1) c (by simpa using hi)
          ·
           rw[WC (by omega)] at hi
           cases hi2:i - cs.length with
           | zero=>rw[hi2] at hi;cases hi;rfl
           | succ q=>rw[hi2] at hi;cases hi
        ·
         cases i with
         |
          zero =>
          cases hi
          match j with
          |
           0 =>
           cases hj
           exact⟨.int .i64 (clock+1:Nat),rfl,by
            have:((clock:Int)+1)=((clock+1:Nat):Int):=by omega
            rw[this]
            exact .int _ _ _ (zfb (by omega) (by omega))⟩
          |
           1 =>
           cases hj;obtain⟨v0,h1,h2⟩:=hh 0 1 _ _ rfl rfl;exact⟨v0,h1,h2⟩
          |
           2 =>
           cases hj;obtain⟨v0,h1,h2⟩:=hh 0 2 _ _ rfl rfl;exact⟨v0,h1,h2⟩
          | j+3=>cases hj
         |
          succ i =>
          simp only[Wj] at hi
          have hms:ms.size=cs.length:=by simp at hsz;omega
          by_cases hlt:i < cs.length
          ·
           rw[WB hlt] at hi;obtain⟨v0,h1,h2⟩:=hh (i+1) j c a (by simpa using hi) hj;refine⟨v0,?_,h2⟩
           have e:(ms.push ⟨kv,vv,clock⟩)[i]? = ms[i]? := by rw[W5,if_neg (by omega)]
           rw[←h1]
           match j with
           | 0=>simp only[zeq,e]
           | 1=>simp only[zeq,e]
           | 2=>simp only[zeq,e]
           | j+3=>rfl
          ·
           rw[WC (by omega)] at hi
           cases hi2:i - cs.length with
           | succ q=>rw[hi2] at hi;cases hi
           |
            zero =>
            rw[hi2] at hi;cases hi
            have hi3:i < cs.length+1:=by omega
            have:i=ms.size:=by omega
            have e:(ms.push ⟨kv,vv,clock⟩)[i]? = some ⟨kv,vv,clock⟩:=by rw[this];simp
            obtain⟨e1,e2,e3⟩:=zeE (clock:=clock+1) e
            match j with
            | 0=>cases hj;exact⟨kv,e1,hk⟩
            | 1=>cases hj;exact⟨vv,e2,hv⟩
            | 2=>cases hj;exact⟨_,e3,.int _ _ _ (zfb (by simp only;omega) (by simp only;omega))⟩
            | j+3=>cases hj
       |
        some p =>
        obtain⟨n,v1⟩:=p;simp only[hf] at hs ⊢;obtain⟨e,_,h6,h7,_,h9⟩:=hfn;rw[Wz,Wk] at h6;have hfk:(Instr.findKey kt kv ms.toList).run P w=.ok (some (n,e.val)) w:=run_findKey hd h7
        have hstay:(Instr.keyThatStays (((ms[n]?).map (·.key)).getD kv) kv).run P w=.ok kv w:=by rw[h6];simp only[WL,W6,h9];exact zuj hbits
        have hms:ms.size=cs.length:=by simp at hsz;omega
        have hn:n < ms.size:=(Wl.1 h6).1;refine⟨_,_,?_,Step.mapset (ms':=ms.modify n fun e=>{ e with key:=kv,val:=vv }) (clock':=clock) rel hg hl hcap okr hb (by simp;omega) (fun i c hi=>?_) (fun i j c a hi hj=>?_),trivial,trivial⟩
        · simp only[Instr.mapUpdate,Sem.run_bind,run_underlying ht,Result.andThen_ok,hgetO,hchk,hfk,hstay,Go.MapKept.run_setObj_map _ hb]
        ·
         cases i with
         | zero=>cases hi;rfl
         |
          succ i =>
          simp only[Wj,W7] at hi;split at hi
          ·
           split at hi
           · cases hi;rfl
           · cases hi
          · exact okr.wide (i+1) c (by simpa using hi)
        ·
         cases i with
         |
          zero =>
          cases hi
          match j with
          |
           0 =>
           cases hj;obtain⟨v0,h1,h2⟩:=hh 0 0 _ _ rfl rfl;exact⟨v0,h1,h2⟩
          |
           1 =>
           cases hj;obtain⟨v0,h1,h2⟩:=hh 0 1 _ _ rfl rfl;exact⟨v0,h1,h2⟩
          |
           2 =>
           cases hj;obtain⟨v0,h1,h2⟩:=hh 0 2 _ _ rfl rfl;exact⟨v0,h1,h2⟩
          | j+3=>cases hj
         |
          succ i =>
          simp only[Wj,W7] at hi;split at hi
          ·
           rename_i hni;subst hni;split at hi
           ·
            cases hi
            have e':(ms.modify n fun e=>{ e with key:=kv,val:=vv })[n]? = some { e with key:=kv,val:=vv }:=by rw[Ws,if_pos rfl,h6];rfl
            obtain⟨e1,e2,e3⟩:=zeE (clock:=clock) e'
            match j with
            | 0=>cases hj;exact⟨kv,e1,hk⟩
            | 1=>cases hj;exact⟨vv,e2,hv⟩
            |
             2 =>
             cases hj;have hcn:cs[n]? = some cs[n]:=Wi (by omega);have hw:=okr.wide (n+1) cs[n] (by simpa using hcn);obtain⟨v0,h1,h2⟩:=hh (n+1) 2 cs[n] _ (by simpa using hcn) (Wi (by omega));obtain⟨_,_,e6⟩:=zeE (clock:=clock) h6;rw[e6] at h1;cases h1;refine⟨_,e3,?_⟩;rw[zw1 hcn,zw1 (Wi (by omega))];exact h2
            | j+3=>cases hj
           · cases hi
          ·
           rename_i hni;obtain⟨v0,h1,h2⟩:=hh (i+1) j c a (by simpa using hi) hj;refine⟨v0,?_,h2⟩
           have e':(ms.modify n fun e=>{ e with key:=kv,val:=vv })[i]? = ms[i]? := by rw[Ws,if_neg hni]
           rw[←h1]
           match j with
           | 0=>simp only[zeq,e']
           | 1=>simp only[zeq,e']
           | 2=>simp only[zeq,e']
           | j+3=>rfl
     · simp[bad] at hs
 | _=>simp[zkW,bad] at hs
end
section
variable {P:Program} {w:World} {L:Nat→Prop} {ι:Inj} {H:AH} {nx:Nat} {M:Nat→Prop}
theorem zDt {t ty kt et:TypeId} {mv:Value} {m:AV} (rel:RelH w L ι H nx) (ht:P.underlying t=some (.map kt et)) (hm:VR w (Lt L ι H) ι mv m) (hs:(zpD m H nx).side) :
  zaA P w L ι H nx (Builtin.len_ #[t] ty #[mv]) (zpD m H nx):=by
 cases hm with
 |
  nilmp =>
  refine⟨.int .i64 0,?_,.int _ _ _ (zfb (by decide) (by decide)),rfl,rfl,trivial⟩;simp[Builtin.len_,run_underlying ht,goInt]
 |
  mp _ r q l hl hcap =>
  cases hg:H.get r q with
  | none=>simp[zpD,hg,bad] at hs
  |
   some o =>
   cases o with
   | fam sz ins=>simp[zpD,hg,bad] at hs
   |
    row sz els g =>
    cases els with
    | nil=>simp[zpD,hg,bad] at hs
    |
     cons hd0 cs =>
     simp only[zpD,hg] at hs ⊢;obtain⟨rfl,rfl,hb⟩:=hs;obtain⟨l',hl',okr⟩:=rel.row _ _ _ _ _ hg;rw[hl] at hl';cases hl';obtain⟨ms,clock,hbl,hsz,hh⟩:=okr.map hcap
     have e:ms.size=cs.length:=by simpa using hsz
     refine⟨.int .i64 cs.length,?_,.int _ _ _ (zfb (by omega) (by unfold big at hb;omega)),rfl,rfl,trivial⟩;simp[Builtin.len_,run_underlying ht,Go.MapKept.run_getObj_map hbl,goInt,e]
 | _=>simp[zpD,bad] at hs
theorem zrD {ms ms':Array MapEntry} {c c' i i':Nat} (h:ms'[i']? = ms[i]?) (j:Nat):zeq (.map ms' c') (i'+1) j=zeq (.map ms c) (i+1) j:=by
 match j with
 | 0=>simp only[zeq,h]
 | 1=>simp only[zeq,h]
 | 2=>simp only[zeq,h]
 | j+3=>rfl
theorem zDS {t kt et:TypeId} {ts:Array TypeId} {ty:TypeId} {str:Option IntKind} {mv kv:Value} {m k:AV} (rel:RelH w L ι H nx) (hts:ts[0]? = some t) (ht:P.underlying t=some (.map kt et)) (hkk:zif P kt=some str)
  (hm:VR w (Lt L ι H) ι mv m) (hk:VR w (Lt L ι H) ι kv k) (hs:(zmA str m k H nx).side):zd5 P w L ι H nx (Builtin.delete_ ts ty #[mv,kv]) (zmA str m k H nx):=by
 have tup0:∀(w:World) (M:Nat→Prop) (ι:Inj),VR w M ι (.tuple #[]) (.tup []):=fun w M ι=>.tup _ _ _ rfl (fun i v a h _=>by simp at h)
 cases hm with
 |
  nilmp =>
  simp only[zmA] at hs ⊢;obtain⟨d,hd,hik,_,_⟩:=zpM hkk hs hk;refine⟨.tuple #[],w,ι,?_,.refl rel,tup0 _ _ _,trivial⟩;simp only[Builtin.delete_,hts,WD,WO,Wj,Sem.run_bind,run_underlying ht,Result.andThen_ok];rw[run_checkKey hd hik _ 9999];rfl
 |
  mp _ r q l hl hcap =>
  cases hg:H.get r q with
  | none=>simp[zmA,hg,bad] at hs
  |
   some o =>
   cases o with
   | fam sz ins=>simp[zmA,hg,bad] at hs
   |
    row sz els g =>
    cases els with
    | nil=>simp[zmA,hg,bad] at hs
    |
     cons hd0 cs =>
     simp only[zmA,hg] at hs ⊢
     cases hf:zfa k cs 0 with
     | none=>simp[hf,bad] at hs
     |
      some res =>
      have hside:sz=3∧g=0∧zgK str k:=by
       cases res with
       | none=>simp only[hf] at hs;exact hs
       | some p=>simp only[hf] at hs;exact hs
      obtain⟨rfl,rfl,hko⟩:=hside;obtain⟨l',hl',okr⟩:=rel.row _ _ _ _ _ hg;rw[hl] at hl';cases hl';obtain⟨ms,clock,hb,hsz,hh⟩:=okr.map hcap;obtain⟨d,hd,hik,hsame,_⟩:=zpM hkk hko hk;have hfn:=zkt hsame ms.toList cs 0 res (by simp at hsz ⊢;omega) (znn hh) hf
      have hms:ms.size=cs.length:=by simp at hsz;omega
      have hgetO:=Go.MapKept.run_getObj_map (P:=P) hb;have hchk:(Instr.checkKey ms.isEmpty 10000 kt kv).run P w=.ok () w:=run_checkKey hd hik _ 9999
      cases res with
      |
       none =>
       simp only[hf];have hfk:(Instr.findKey kt kv ms.toList).run P w=.ok none w:=run_findKey hd hfn;have hset:=Go.MapKept.run_setObj_map (P:=P) (.map ms clock) hb
       have hself:({ w with heap:=w.heap.setIfInBounds l.block (.map ms clock) }:World)=w:=by
        have:w.heap.setIfInBounds l.block (.map ms clock)=w.heap:=by
         apply Array.ext_getElem?;intro i;rw[Array.getElem?_setIfInBounds];split
         · rename_i e;subst e;obtain⟨hlt,_⟩:=Wl.1 hb;rw[if_pos hlt,hb]
         · rfl
        rw[this]
       rw[hself] at hset;refine⟨.tuple #[],w,ι,?_,.refl rel,tup0 _ _ _,trivial⟩;simp only[Builtin.delete_,hts,WD,WO,Wj,Sem.run_bind,run_underlying ht,Result.andThen_ok,hgetO,hchk,hfk,hset];rfl
      |
       some p =>
       obtain⟨n,v1⟩:=p;simp only[hf];obtain⟨e,_,h6,h7,_,h9⟩:=hfn;rw[Wz,Wk] at h6;have hn:n < ms.size:=(Wl.1 h6).1;have hfk:(Instr.findKey kt kv ms.toList).run P w=.ok (some (n,e.val)) w:=run_findKey hd h7;have hset:=Go.MapKept.run_setObj_map (P:=P) (.map (ms.eraseIdxIfInBounds n) clock) hb
       have hl2:∀i,(ms.eraseIdxIfInBounds n)[i]? = if i < n then ms[i]? else ms[i+1]? := by intro i;rw[←Wk,W8,WP,Wk,Wk]
       refine⟨.tuple #[],_,_,?_,Step.mapset (ms':=ms.eraseIdxIfInBounds n) (clock':=clock) rel hg hl hcap okr hb (by
        have:(ms.eraseIdxIfInBounds n).toList.length=(ms.toList.eraseIdx n).length:=by rw[W8]
        rw[Wr,W9,if_pos (by simpa using hn),Wr] at this;rw[List.length_cons,W9,if_pos (by omega)]
        omega) (fun i c hi=>?_) (fun i j c a hi hj=>?_),tup0 _ _ _,trivial⟩
       · simp only[Builtin.delete_,hts,WD,WO,Wj,Sem.run_bind,run_underlying ht,Result.andThen_ok,hgetO,hchk,hfk,hset];rfl
       ·
        cases i with
        | zero=>exact okr.wide 0 c hi
        |
         succ i =>
         simp only[Wj,WP] at hi;split at hi
         · exact okr.wide (i+1) c (by simpa using hi)
         · exact okr.wide (i+2) c (by simpa using hi)
       ·
        cases i with
        |
         zero =>
         obtain⟨v0,h1,h2⟩:=hh 0 j c a hi hj;refine⟨v0,?_,h2⟩;rw[←h1]
         match j with
         | 0=>rfl
         | j+1=>rfl
        |
         succ i =>
         simp only[Wj,WP] at hi;split at hi
         · rename_i hlt;obtain⟨v0,h1,h2⟩:=hh (i+1) j c a (by simpa using hi) hj;exact⟨v0,by rw[←h1];exact zrD (by rw[hl2,if_pos hlt]) j,h2⟩
         · rename_i hlt;obtain⟨v0,h1,h2⟩:=hh (i+2) j c a (by simpa using hi) hj;exact⟨v0,by rw[←h1];exact zrD (by rw[hl2,if_neg hlt]) j,h2⟩
 | _=>simp[zmA,bad] at hs
theorem zyt (rel:RelH w L ι H nx) (m:Option Nat) (clock:Nat) (a:AV) (c:Int) (hc:c=clock) (hcr:InR .i64 c) (hv:VR w (Lt L ι H) ι (.map m) a) :
  Step w L ι H nx (w.alloc (.mapIter m clock #[] clock)) (ι.put nx 0 0 ⟨w.heap.size,0,maxLen+2,1⟩) (H.set nx 0 (.row 1 [[a],[.int .i64 c],[.int .i64 c]] 0)) (nx+1):=by
 have c1:Chg w ι H nx 0 0 ⟨w.heap.size,0,maxLen+2,1⟩ (w.alloc (.mapIter m clock #[] clock)) :=
  ⟨rfl,rfl,rfl,by simp,fun b hb _=>Below.heap_alloc w _ b hb,fun _=>.inr (We _),fun l0 h0=>(by rw[rel.freshI] at h0;cases h0),fun g2 l2 h2=>(by rw[rel.freshI] at h2;cases h2)⟩
 have hb:(w.alloc (.mapIter m clock #[] clock)).heap[w.heap.size]? = some (.mapIter m clock #[] clock):=(by have:(w.alloc (.mapIter m clock #[] clock)).heap=w.heap.push (.mapIter m clock #[] clock):=rfl;rw[this];simp);refine c1.step (rel.sok 1) rel (Wm _) (Wp _) ⟨rfl,fun i c hi=>?_,fun h=>absurd h zxx,fun _=>⟨Nat.succ_pos 0,_,hb,rfl,by simp[zvr]⟩,fun i c' j a' hi hj=>?_⟩
 ·
  match i with
  | 0=>cases hi;rfl
  | 1=>cases hi;rfl
  | 2=>cases hi;rfl
  | i+3=>cases hi
 ·
  subst hc
  have cell:∀v,zeq (.mapIter m clock #[] clock) i j=some v→VR w (Lt L ι H) ι v a'→∃v,zdq (w.alloc (.mapIter m clock #[] clock)) ⟨w.heap.size,0,maxLen+2,1⟩ 1 i j=some v∧(maxLen+2≤maxLen→v.oneCell'=true) ∧
    VR (w.alloc (.mapIter m clock #[] clock)) (Lt L (ι.put nx 0 0 ⟨w.heap.size,0,maxLen+2,1⟩) (H.set nx 0 (.row 1 [[a],[.int .i64 clock],[.int .i64 clock]] 0))) (ι.put nx 0 0 ⟨w.heap.size,0,maxLen+2,1⟩) v a':=fun v h1 h2 =>
   ⟨v,by unfold zdq;rw[if_neg zxx,hb];exact h1,fun h=>absurd h zxx,c1.vr (rel.sok 1) rel h2⟩
  match i with
  |
   0 =>
   cases hi
   match j with
   | 0=>cases hj;exact cell _ rfl hv
   | j+1=>cases hj
  |
   1 =>
   cases hi
   match j with
   | 0=>cases hj;exact cell _ rfl (.int _ _ _ hcr)
   | j+1=>cases hj
  |
   2 =>
   cases hi
   match j with
   | 0=>cases hj;exact cell _ rfl (.int _ _ _ hcr)
   | j+1=>cases hj
  | i+3=>cases hi
theorem zyM {t kt et:TypeId} {mv:Value} {m:AV} (rel:RelH w L ι H nx) (ht:P.underlying t=some (.map kt et)) (hm:VR w (Lt L ι H) ι mv m) (hs:(zdW m H nx).side) :
  zd5 P w L ι H nx (Instr.range t mv) (zdW m H nx):=by
 cases hm with
 |
  nilmp =>
  simp only[zdW];refine⟨.pointer (some ⟨w.heap.size,0,none⟩),_,_,?_,zyt rel none 0 .nilmp 0 rfl (zfb (by decide) (by decide)) (.nilmp _),.it _ nx _ (Inj.put_same _ _ _ _ _) (.inl rfl),trivial⟩;simp[Instr.range,Sem.run_bind,run_underlying ht]
 |
  mp _ r q l hl hcap =>
  cases hg:H.get r q with
  | none=>simp[zdW,hg,bad] at hs
  |
   some o =>
   cases o with
   | fam sz ins=>simp[zdW,hg,bad] at hs
   |
    row sz els g =>
    cases els with
    | nil=>simp[zdW,hg,bad] at hs
    |
     cons hd0 cs =>
     simp only[zdW,hg] at hs ⊢;split at hs
     ·
      rename_i c u u';obtain⟨rfl,rfl⟩:=hs;obtain⟨l',hl',okr⟩:=rel.row _ _ _ _ _ hg;rw[hl] at hl';cases hl';obtain⟨ms,clock,hb,hsz,hh⟩:=okr.map hcap;obtain⟨v0,h1,h2⟩:=hh 0 0 _ _ rfl rfl;cases h1
      have hcr:c=(clock:Int)∧InR .i64 c:=by
       cases h2 with
       | int _ _ _ h=>exact⟨rfl,h⟩
      refine⟨.pointer (some ⟨w.heap.size,0,none⟩),_,_,?_,zyt rel (some l.block) clock (.mp r q) c hcr.1 hcr.2 (.mp _ _ _ _ hl hcap),.it _ nx _ (Inj.put_same _ _ _ _ _) (.inl rfl),trivial⟩;simp[Instr.range,Sem.run_bind,run_underlying ht,Go.MapKept.run_getObj_map hb]
     · simp[bad] at hs
 | _=>simp[zdW,bad] at hs
theorem RowOk.iter {es:List (List AV)} {l:Loc} (ok:RowOk w M ι 1 es l) (hm:l.cap=maxLen+2):∃m since seen stepped,w.heap[l.block]? = some (.mapIter m since seen stepped)∧seen.size+3=es.length ∧
  ∀(i:Nat) (a:AV),es[i]? = some [a]→∃v,zeq (.mapIter m since seen stepped) i 0=some v∧VR w M ι v a:=by
 have hno:¬l.cap≤maxLen:=by omega
 obtain⟨_,o,h1,h2,h3⟩:=ok.spec hno;rw[hm,WN] at h3
 cases o<;>simp[zvr] at h3
 rename_i m since seen stepped;refine⟨m,since,seen,stepped,h1,h2,fun i a hi=>?_⟩;obtain⟨v,h4,_,h5⟩:=ok.hold i _ 0 a hi rfl;unfold zdq at h4;rw[if_neg hno,h1] at h4;exact⟨v,h4,h5⟩
theorem RowOk.noBox {es:List (List AV)} {l:Loc} (ok:RowOk w M ι 1 es l) (h:2≤es.length) (hm:l.cap=maxLen+2∨l.cap=maxLen+3):l.cap=maxLen+2:=by
 rcases hm with hm|hm
 · exact hm
 ·
  obtain⟨_,o,_,h2,h3⟩:=ok.spec (by omega);rw[hm,WN] at h3
  cases o<;>simp[zvr] at h3
  simp only[vlen] at h2;omega
theorem znh {m:Option Nat} {sn:Nat} {sv:Array Nat} {stp i b:Nat} (h:sv[i]? = some b):zeq (.mapIter m sn sv stp) (i+3) 0=some (.int .i64 (b:Int)):=by simp only[zeq,h];rfl
theorem zww {m m':Option Nat} {sn sn':Nat} {sv sv':Array Nat} {stp stp' i:Nat} (h:sv'[i]? = sv[i]?):zeq (.mapIter m' sn' sv' stp') (i+3) 0=zeq (.mapIter m sn sv stp) (i+3) 0:=by simp only[zeq,h]
theorem Step.itset {r:Nat} {l:Loc} {els els':List (List AV)} {m:Option Nat} {since:Nat} {seen seen':Array Nat} {st st':Nat} {w1:World} (rel:RelH w L ι H nx) (hw1:w1=w∨w1=w.drew) (hg:H.get r 0=some (.row 1 els 0)) (hl:ι r 0 0=some l) (hcap:l.cap=maxLen+2) (ok:RowOk w (Lt L ι H) ι 1 els l)
  (hb:w.heap[l.block]? = some (.mapIter m since seen st)) (hlen:seen'.size+3=els'.length) (hw:∀(i:Nat) (c:List AV),els'[i]? = some c→c.length=1)
  (hh:∀(i:Nat) (a:AV),els'[i]? = some [a]→∃v,zeq (.mapIter m since seen' st') i 0=some v∧VR w (Lt L ι H) ι v a) :
  Step w L ι H nx (Go.ChangeMaps.setBlock w1 l.block (.mapIter m since seen' st')) (ι.put r 0 0 l) (H.set r 0 (.row 1 els' 0)) nx:=by
 have hpos:0 < l.cap * l.sz:=by rw[ok.hsz,hcap];omega
 have hno:¬l.cap≤maxLen:=by omega
 have hh1:w1.heap=w.heap:=by rcases hw1 with rfl|rfl<;>rfl
 have c1:Chg w ι H r 0 0 l (Go.ChangeMaps.setBlock w1 l.block (.mapIter m since seen' st')):=by refine⟨by rcases hw1 with rfl|rfl<;>rfl,by rcases hw1 with rfl|rfl<;>rfl,by rcases hw1 with rfl|rfl<;>rfl,by simp[Go.ChangeMaps.setBlock,hh1],fun b hb' hn=>?_,fun hp=>.inl ⟨1,els,0,l,hg,hl,hp,rfl⟩,fun l0 h0=>by rw[hl] at h0;cases h0;rfl,fun g2 l2 h2=>rel.gen r 0 _ _ _ hg g2 l2 h2⟩;show (w1.heap.setIfInBounds l.block _)[b]? = _;rw[hh1];exact(Go.MapKept.heap_set hb).2 b (fun e=>hn ⟨1,els,0,l,hg,hl,hpos,e.symm⟩)
 have hb':(Go.ChangeMaps.setBlock w1 l.block (.mapIter m since seen' st')).heap[l.block]? = some (.mapIter m since seen' st'):=by show (w1.heap.setIfInBounds l.block _)[l.block]? = _;rw[hh1];exact(Go.MapKept.heap_set hb).1
 refine c1.step (.inl ⟨_,_,hg⟩) rel (rel.idx _ _ _ _ hl) (We _) ⟨ok.hsz,hw,fun h=>absurd h hno,fun _=>⟨by rw[ok.hsz];omega,.mapIter m since seen' st',hb',hlen,by rw[hcap];simp[zvr]⟩,fun i c j a hi hj=>?_⟩;have hc1:=hw i c hi
 obtain⟨a0,rfl⟩:∃a0,c=[a0]:=by
  match c,hc1 with
  | [a0],_=>exact⟨a0,rfl⟩
 have hj0:j=0∧a=a0:=by
  match j with
  | 0=>cases hj;exact⟨rfl,rfl⟩
  | j+1=>cases hj
 obtain⟨rfl,rfl⟩:=hj0;obtain⟨v,h1,h2⟩:=hh i a hi;refine⟨v,?_,fun h=>absurd h hno,c1.vr (.inl ⟨_,_,hg⟩) rel h2⟩;unfold zdq;rw[if_neg hno];simp only[hb',WA];exact h1
theorem zD4 {t e:TypeId} {len:Nat} {inf:TypeInfo} {d:TypeDesc} (hu:P.underlying t=some (.array len e)) (hi:P.info? e=some inf) (hd:P.underlying e=some d) (hone:zcb d=true∨inf.size=1)
  {xv iv:Value} {x i:AV} (hx:VR w (Lt L ι H) ι xv x) (hiv:VR w (Lt L ι H) ι iv i) (hs:(ztd len inf.size (zcb d) x i H nx).side):zaA P w L ι H nx (Instr.index t xv iv) (ztd len inf.size (zcb d) x i H nx):=by
 cases hx with
 |
  agg _ cs asv hsz h1 hv =>
  cases hiv with
  |
   int _ k n hn =>
   simp only[ztd] at hs ⊢;obtain⟨h0,hlt,hle⟩:=hs
   have hkn:n.toNat < len:=by omega
   have hin:n.toNat * inf.size+inf.size≤len * inf.size:=by have:(n.toNat+1) * inf.size≤len * inf.size:=WI _ hkn;rw[Wq] at this;omega
   have hc:(0≤n∧n < (len:Int)):=⟨h0,hlt⟩
   cases hr:zcb d with
   |
    true =>
    have hv':VR w (Lt L ι H) ι (.agg (cs.extract (n.toNat * inf.size) (n.toNat * inf.size+inf.size))) (.agg (sub asv (n.toNat * inf.size) inf.size)):=by
     have hsize:(cs.extract (n.toNat * inf.size) (n.toNat * inf.size+inf.size)).size=inf.size:=by simp;omega
     refine .agg _ _ _ (by rw[hsize,znu _ _ _ (by omega)]) (fun i v hi'=>?_) (fun i v a hi' ha=>?_)
     ·
      have hlt:i < inf.size:=by rw[←hsize];exact(Wl.1 hi').1
      rw[zgr _ _ _ _ (by omega) (by omega)] at hi';exact h1 _ _ hi'
     ·
      have hlt:i < inf.size:=by rw[←hsize];exact(Wl.1 hi').1
      rw[zgr _ _ _ _ (by omega) (by omega)] at hi';rw[zvP _ _ _ _ hlt] at ha;exact hv _ _ _ hi' ha
    simp only[cond_true];refine⟨_,?_,hv',rfl,rfl,hv'.wf⟩;simp[Instr.index,asIntOf,Sem.run_bind,run_underlying hu,hc,part,zdX hd,hr,sizeOf,typeInfo,hi]
   |
    false =>
    have hs1:inf.size=1:=by rcases hone with h|h;rw[hr] at h;cases h;exact h
    rw[hs1,Wo] at hin
    have hb:n.toNat < cs.size:=by rw[hs1,Wo] at hle;omega
    simp only[cond_false,hs1,Wo];have hc1:cs[n.toNat]? = some cs[n.toNat]:=Wh hb;have ha1:asv[n.toNat]? = some asv[n.toNat]:=Wi (by omega);have hvv:=hv _ _ _ hc1 ha1;have e:asv.getD n.toNat .undef=asv[n.toNat]:=zw1 ha1;rw[e];refine⟨_,?_,hvv,rfl,rfl,hvv.wf⟩;simp[Instr.index,asIntOf,Sem.run_bind,run_underlying hu,hc,part,zdX hd,hr,sizeOf,typeInfo,hi,hs1,hb]
  | _=>simp[ztd,bad] at hs
 | _=>cases i<;>simp[ztd,bad] at hs
theorem zAJ {t e:TypeId} {len:Nat} {inf:TypeInfo} (hu:P.underlying t=some (.array len e)) (hi:P.info? e=some inf) (hpos:0 < inf.size)
  {xv iv:Value} {x i:AV} (hx:VR w (Lt L ι H) ι xv x) (hiv:VR w (Lt L ι H) ι iv i) (hs:(zkm len inf.size x i H nx).side):zaA P w L ι H nx (Instr.indexAt t xv iv) (zkm len inf.size x i H nx):=by
 have run:∀(a:Addr) (k:IntKind) (n:Int),0≤n→n < (len:Int)→(Instr.indexAt t (.pointer (some a)) (.int k n)).run P w=.ok (.pointer (some (a.add (n.toNat * inf.size)))) w:=by intro a k n h0 h1;have hc:(0≤n∧n < (len:Int)):=⟨h0,h1⟩;simp[Instr.indexAt,asIntOf,Sem.run_bind,run_underlying hu,Instr.sureAddr,hc,sizeOf,typeInfo,hi]
 cases hx with
 |
  ptr _ r q g j f l hl hm =>
  cases hiv with
  |
   int _ k n hn =>
   simp only[zkm] at hs ⊢;refine⟨_,run _ k n hs.1 hs.2,?_,rfl,rfl,trivial⟩;rw[add_mid,Nat.add_assoc];exact .ptr _ r q g j _ l hl hm
  | _=>simp[zkm,bad] at hs
 |
  iptr _ a m c V hc hL hv =>
  cases hiv with
  |
   int _ k n hn =>
   simp only[zkm] at hs ⊢;obtain⟨h0,h1,h2⟩:=hs
   have hkn:n.toNat < len:=by omega
   have hin:n.toNat * inf.size+inf.size≤len * inf.size:=by have:(n.toNat+1) * inf.size≤len * inf.size:=WI _ hkn;rw[Wq] at this;omega
   refine⟨_,run _ k n h0 h1,?_,rfl,rfl,trivial⟩;refine .iptr _ _ _ _ (fun j=>V (n.toNat * inf.size+j)) (fun j hj=>?_) (fun _=>by rw[zdc];exact hL (by omega)) (fun j hj=>hv _ (by omega));rw[Go.Deep.add_add];exact hc _ (by omega)
  | _=>simp[zkm,bad] at hs
 | _=>cases i<;>simp[zkm,bad] at hs
theorem zsl {n:Nat} {k v:AV}:∀ {ml:List MapEntry} {es:List (List AV)},(∀(i:Nat) (cs:List AV),es[i]? = some cs→∃e,ml[i]? = some e∧∃kk vv bb,cs=[kk,vv,bb]∧VR w M ι e.key kk∧VR w M ι e.val vv∧VR w M ι (.int .i64 e.born) bb) →
  zxv (n:Int) es=some (k,v)→∃e,ml.find? (·.born == n)=some e∧VR w M ι e.key k∧VR w M ι e.val v
 | ml,[],_,h=>by cases h
 |
  ml,cs::es,hr,h=>by
  obtain⟨e,he,kk,vv,bb,rfl,h1,h2,h3⟩:=hr 0 cs rfl
  cases ml with
  | nil=>cases he
  |
   cons e' ml =>
   cases he;unfold zxv at h
   try simp only at h
   cases bb with
   |
    int ik b' =>
    cases h3
    try simp only at h
    by_cases hb:(e.born:Int)=(n:Int)
    ·
     rw[if_pos hb] at h;cases h
     have hbn:e.born=n:=by omega
     exact⟨e,by rw[List.find?_cons,show (e.born == n)=true by simp[hbn]],h1,h2⟩
    · rw[if_neg hb] at h;obtain⟨e2,h4,h5⟩:=zsl (ml:=ml) (fun i cs' hi=>hr (i+1) cs' hi) h;refine⟨e2,?_,h5⟩;rw[List.find?_cons,show (e.born == n)=false by simp;omega];exact h4
   | _=>first | (cases h;done) | (simp at h;done)
theorem zDE {xv:Value} {x:AV} (rel:RelH w L ι H nx) (hx:VR w (Lt L ι H) ι xv x) (hs:(zs6 x H nx).side):zaA P w L ι H nx (Instr.entry xv) (zs6 x H nx):=by
 cases hx with
 |
  it _ r l hl hcap =>
  unfold zs6 at hs ⊢;simp only at hs ⊢;split at hs
  ·
   rename_i sz m sn st seen g hg;split at hs
   ·
    rename_i rm qm t b hlast;split at hs
    ·
     rename_i sz2 hd es g2 hg2;split at hs
     ·
      rename_i c u u' k v hfind;obtain⟨rfl,rfl,rfl,rfl,rfl⟩:=hs;obtain⟨l',hl',okr⟩:=rel.row _ _ _ _ _ hg;rw[hl] at hl';cases hl';have hcap:=okr.noBox (by simp) hcap;obtain⟨m,sn',sv,stp,hb,hsz,hh⟩:=okr.iter hcap;obtain⟨v0,e0,r0⟩:=hh 0 (.mp rm qm) rfl;cases e0
      cases r0 with
      |
       mp _ _ _ lm hlm hcm =>
       obtain⟨v2,e2,r2⟩:=hh 2 (.int .i64 c) rfl;cases e2;obtain⟨l'',hl'',okm⟩:=rel.row _ _ _ _ _ hg2;rw[hlm] at hl'';cases hl'';obtain⟨ms,clock,hbm,hszm,hhm⟩:=okm.map hcm
       have hc:c=(clock:Int):=by obtain⟨v3,e3,r3⟩:=hhm 0 0 _ _ rfl rfl;cases e3;cases r3;rfl
       have hst:stp=clock:=by cases r2;omega
       have hne:seen≠[]:=by intro e;rw[e] at hlast;cases hlast
       have hlen:0 < seen.length:=List.length_pos_iff.2 hne
       have hgl:seen[seen.length - 1]? = some [.int .i64 b]:=by rw[←List.getLast?_eq_getElem?];exact hlast
       have hsvl:sv.size=seen.length:=by simp at hsz;omega
       obtain⟨v4,e4,r4⟩:=hh (seen.length - 1+3) (.int .i64 b) (by simpa using hgl);obtain⟨s0,hsv⟩:∃s0,sv[seen.length - 1]? = some s0:=⟨_,Wh (by omega)⟩;rw[znh hsv] at e4;cases e4
       have hbb:b=(s0:Int):=by cases r4;rfl
       have hback:sv.back? = some s0:=by rw[Array.back?_eq_getElem?,hsvl];exact hsv
       rw[hbb] at hfind
       obtain⟨e,h5,h6,h7⟩:=zsl (w:=w) (M:=Lt L ι H) (ι:=ι) (ml:=ms.toList) (fun i cs hi=>by
        have hwid:=okm.wide (i+1) cs (by simpa using hi)
        have hil:i < ms.size:=by have:=(Wy.1 hi).1;simp at hszm;omega
        refine⟨ms[i],by rw[Wk];exact Wh hil,?_⟩
        match cs,hwid,hi with
        |
         [kk,vv,bb],_,hi =>
         obtain⟨f1,f2,f3⟩:=zeE (clock:=clock) (Wh hil);obtain⟨w1,g1,q1⟩:=hhm (i+1) 0 _ kk (by simpa using hi) rfl;obtain⟨w2,g2,q2⟩:=hhm (i+1) 1 _ vv (by simpa using hi) rfl;obtain⟨w3,g3,q3⟩:=hhm (i+1) 2 _ bb (by simpa using hi) rfl;rw[f1] at g1;cases g1;rw[f2] at g2;cases g2;rw[f3] at g3;cases g3
         exact⟨kk,vv,bb,rfl,q1,q2,q3⟩) hfind
       refine⟨.tuple #[e.key,e.val],?_,.tup _ _ _ rfl (fun i v a h1 h2=>?_),rfl,rfl,trivial⟩
       ·
        have hf:ms.find? (·.born == s0)=some e:=by rw[←Array.find?_toList];exact h5
        simp only[Instr.entry,getObj,Sem.run_bind,Sem.run,hb,hbm,Result.andThen,hback,hst,bne_self_eq_false,W4,if_false,hf];rfl
       ·
        match i with
        | 0=>cases h1;cases h2;exact h6
        | 1=>cases h1;cases h2;exact h7
        | i+2=>cases h2
     · exact hs.elim
    · exact hs.elim
   · exact hs.elim
  · exact hs.elim
 | _=>simp[zs6,bad] at hs
end
end Go.Ab
namespace Go.Ab
open Go.RowKit
section
variable {P:Program} {w:World} {L:Nat→Prop} {ι:Inj} {H:AH} {nx:Nat} {M:Nat→Prop}
theorem zzW {t e:TypeId} {len:Nat} {i:TypeInfo} {z:List AV} {parts:Array (Nat × Value)} {qs:List (Nat × Nat × AV)} (hu:P.underlying t=some (.array len e)) (hi:P.info? e=some i) (hz:zgp P t=some z)
  (hps:PL w (Lt L ι H) ι (fun j=>some (j * i.size,i.size)) parts.toList qs) (hs:(zi4 z qs H nx).side):zaA P w L ι H nx (Instr.build t parts) (zi4 z qs H nx):=by
 obtain⟨i',zv,hi',hzv,hsz,hzl,hcr⟩:=zfL hz;obtain⟨cs',h1,h2⟩:=zCm hps (hcr w (Lt L ι H) ι) hs;refine⟨.agg cs',?_,h2.agg,rfl,rfl,trivial⟩;simp only[Instr.build,zeroValue,typeInfo,sizeOf,Sem.run_bind,run_program,Result.andThen_ok,hi',hi,Sem.run_pure,hzv,run_underlying hu,h1]
def CV (w:World) (M:Nat→Prop) (ι:Inj) (x:Value) (asv:List AV):Bool→Prop
 | false=>∃a,asv=[a]∧VR w M ι x a
 | true=>∃cs:Array Value,x=.agg cs∧cs.size=asv.length∧∀(i:Nat) (v:Value) (a:AV),cs[i]? = some v→asv[i]? = some a→VR w M ι v a
theorem zoh {s:Nat} {ss:List Nat} {asv bs:List AV} {r:Bool} (h:zS (s::ss) asv bs=some r):(s=0∨s=1∨s=2)∧∃a as' b bs',asv=a::as'∧bs=b::bs':=by
 unfold zS at h;split at h
 · rename_i e;cases e
 · rename_i e;cases e;exact⟨.inl rfl,_,_,_,_,rfl,rfl⟩
 · rename_i e;cases e;exact⟨.inr (.inl rfl),_,_,_,_,rfl,rfl⟩
 · rename_i e;cases e;exact⟨.inr (.inr rfl),_,_,_,_,rfl,rfl⟩
 · cases h
theorem zo9:∀ {ss:List Nat} {asv bs:List AV} {r:Bool},zS ss asv bs=some r→asv.length=ss.length∧bs.length=ss.length:=by
 intro ss
 induction ss with
 |
  nil =>
  intro asv bs r h
  cases asv<;>cases bs<;>simp_all [zS]
 |
  cons s ss ih =>
  intro asv bs r h;obtain⟨hs,a,as',b,bs',rfl,rfl⟩:=zoh h
  rcases hs with rfl|rfl|rfl
  · obtain⟨k,x,y,t',rfl,rfl,h1,rfl⟩:=ziT h;have:=ih h1;simp[this.1,this.2]
  · obtain⟨x,y,t',rfl,rfl,h1,rfl⟩:=zim h;have:=ih h1;simp[this.1,this.2]
  · obtain⟨x,y,t',rfl,rfl,h1,rfl⟩:=zgM h;have:=ih h1;simp[this.1,this.2]
theorem zwr:∀ {s1 s2:List Nat} {asv bs:List AV} {r:Bool},zS (s1++s2) asv bs=some r →
  ∃r1 r2,zS s1 (asv.take s1.length) (bs.take s1.length)=some r1∧zS s2 (asv.drop s1.length) (bs.drop s1.length)=some r2∧r=(r1&&r2):=by
 intro s1
 induction s1 with
 |
  nil =>
  intro s2 asv bs r h;exact⟨true,r,by simp[zS],by simpa using h,by simp⟩
 |
  cons s s1 ih =>
  intro s2 asv bs r h;obtain⟨hs,a,as',b,bs',rfl,rfl⟩:=zoh h
  rcases hs with rfl|rfl|rfl
  · obtain⟨k,x,y,t',rfl,rfl,h1,rfl⟩:=ziT h;obtain⟨r1,r2,h2,h3,rfl⟩:=ih h1;exact⟨decide (x=y)&&r1,r2,by simp[zS,h2],by simpa using h3,by simp[WQ]⟩
  · obtain⟨x,y,t',rfl,rfl,h1,rfl⟩:=zim h;obtain⟨r1,r2,h2,h3,rfl⟩:=ih h1;exact⟨decide (x=y)&&r1,r2,by simp[zS,h2],by simpa using h3,by simp[WQ]⟩
  · obtain⟨x,y,t',rfl,rfl,h1,rfl⟩:=zgM h;obtain⟨r1,r2,h2,h3,rfl⟩:=ih h1;exact⟨(x == y)&&r1,r2,by simp[zS,h2],by simpa using h3,by simp[WQ]⟩
theorem zy8 {t:TypeId} {s:Nat} (h:zop P t=some s):∃d,P.underlying t=some d∧zcb d=false:=by
 unfold zop at h
 split at h<;>first | (cases h;done)|skip
 · rename_i hu;exact⟨_,hu,rfl⟩
 · rename_i hu;exact⟨_,hu,rfl⟩
 · rename_i hu;exact⟨_,hu,rfl⟩
theorem zmD:∀(d:Nat) (t:TypeId) (ss:List Nat),zsg P d t=some ss→∃dd,P.underlying t=some dd ∧
  ∀(n:Nat),d≤n→∀(x y:Value) (asv bs:List AV) (r:Bool),CV w M ι x asv (zcb dd)→CV w M ι y bs (zcb dd)→zS ss asv bs=some r→(Op.equalIn (n+1) t x y).run P w=.ok r w
 | 0,t,ss,h=>by cases h
 |
  d+1,t,ss,h=>by
  unfold zsg at h;split at h
  ·
   rename_i s hs;cases h;obtain⟨dd,hu,hrow⟩:=zy8 hs;refine⟨dd,hu,fun n _ x y asv bs r hx hy he=>?_⟩;rw[hrow] at hx hy;obtain⟨a,rfl,hax⟩:=hx;obtain⟨b,rfl,hby⟩:=hy;unfold zop at hs;split at hs
   · rename_i k hu;cases hs;obtain⟨k1,n1,n2,t',rfl,rfl,h3,rfl⟩:=ziT he;cases hax;cases hby;simp[zS] at h3;subst h3;rw[WR];exact run_equalIn_int w n t k1 k n1 n2 hu
   · rename_i hu;cases hs;obtain⟨n1,n2,t',rfl,rfl,h3,rfl⟩:=zim he;cases hax;cases hby;simp[zS] at h3;subst h3;rw[run_equalIn_string w n t _ _ hu,zkD,WR]
   · rename_i hu;cases hs;obtain⟨n1,n2,t',rfl,rfl,h3,rfl⟩:=zgM he;cases hax;cases hby;simp[zS] at h3;subst h3;rw[WR];exact run_equalIn_bool' w n t _ _ hu
   · cases hs
  ·
   rename_i hs;split at h
   ·
    rename_i fs hu;split at h
    ·
     rename_i hst;refine⟨_,hu,fun n hn x y asv bs r hx hy he=>?_⟩;obtain⟨xs,rfl,hx1,hx2⟩:=hx;obtain⟨ys,rfl,hy1,hy2⟩:=hy;obtain⟨m,rfl⟩:∃m,n=m+1:=⟨n - 1,by omega⟩
     have hfo:P.fieldsOf t=fs:=by unfold Program.fieldsOf;rw[hu]
     rw[run_equalIn_struct w (m+1) t xs ys (by rw[hfo];exact hu) hst,hfo];exact zlB (P:=P) (w:=w) m hx2 hy2 hx1 hy1 fs.toList 0 ss r h (by simpa using he)
    · cases h
   ·
    rename_i len e hu;split at h
    ·
     rename_i l i hl hi;split at h
     ·
      rename_i hsz;cases h;obtain⟨de,hue,ih⟩:=zmD d e l hl;refine⟨_,hu,fun n hn x y asv bs r hx hy he=>?_⟩;obtain⟨xs,rfl,hx1,hx2⟩:=hx;obtain⟨ys,rfl,hy1,hy2⟩:=hy;obtain⟨m,rfl⟩:∃m,n=m+1:=⟨n - 1,by omega⟩
      have hc:P.cellsOf e=l.length:=by unfold Program.cellsOf;rw[hi];exact hsz
      rw[run_equalIn_array w (m+1) xs ys hu hi,hc]
      have part_ok:∀ {zs:Array Value} {cs:List AV} (j:Nat),zs.size=cs.length→(∀(i:Nat) (v:Value) (a:AV),zs[i]? = some v→cs[i]? = some a→VR w M ι v a)→j * l.length+l.length≤cs.length →
        ∃v,(part e zs (j * l.length)).run P w=.ok v w∧CV w M ι v ((cs.drop (j * l.length)).take l.length) (zcb de):=by
       intro zs cs j hz1 hz2 hle
       cases hr:zcb de with
       |
        true =>
        refine⟨.agg (zs.extract (j * l.length) (j * l.length+l.length)),?_,zs.extract (j * l.length) (j * l.length+l.length),rfl,by simp;omega,fun q v a hq ha=>?_⟩
        · simp[part,Sem.run_bind,zdX hue,hr,sizeOf,typeInfo,hi,hsz]
        ·
         have hlt:q < l.length:=by have:=(Wl.1 hq).1;simp at this;omega
         rw[zgr _ _ _ _ (by omega) (by omega)] at hq;rw[List.getElem?_take,if_pos hlt,List.getElem?_drop] at ha;exact hz2 _ _ _ hq ha
       |
        false =>
        have h1:l.length=1:=by
         obtain⟨d',rfl⟩:∃d',d=d'+1:=by
          cases d with
          | zero=>cases hl
          | succ d'=>exact⟨d',rfl⟩
         unfold zsg at hl;split at hl
         · cases hl;rfl
         ·
          rw[hue] at hl
          cases de<;>first | (cases hr;done) | (cases hl;done)
        have hlt:j * l.length < zs.size:=by omega
        have ha:cs[j * l.length]? = some cs[j * l.length]:=Wi (by omega);refine⟨zs[j * l.length],?_,cs[j * l.length],?_,hz2 _ _ _ (Wh hlt) ha⟩
        · simp[part,Sem.run_bind,zdX hue,hr,hlt]
        ·
         have htake:∀(x:AV) (r:List AV) (n:Nat),n=1→(x::r).take n=[x]:=fun x r n hn=>by subst hn;rfl
         rw[WM (show j * l.length < cs.length by omega)];exact htake _ _ _ h1
      have go:∀(k j:Nat) (r:Bool),zS (List.replicate k l).flatten (asv.drop (j * l.length)) (bs.drop (j * l.length))=some r→(Op.eqItems (m+1) e l.length xs ys (List.range' j k)).run P w=.ok r w:=by
       intro k
       induction k with
       |
        zero =>
        intro j r h;have:=zo9 h;simp at this;have e1:asv.drop (j * l.length)=[]:=WK (by simp;omega);have e2:bs.drop (j * l.length)=[]:=WK (by simp;omega);rw[e1,e2] at h;simp[zS] at h;subst h;simp[Op.eqItems]
       |
        succ k ihk =>
        intro j r h;have hlen:=zo9 h;rw[List.replicate_succ,List.flatten_cons] at h hlen;rw[List.length_append,Waa,Waa] at hlen;obtain⟨r1,r2,h1,h2,rfl⟩:=zwr h;rw[List.drop_drop,List.drop_drop,show j * l.length+l.length=(j+1) * l.length by rw[Wq];omega] at h2
        have hpos:j * l.length+l.length≤asv.length∧j * l.length+l.length≤bs.length:=by
         rcases Nat.eq_zero_or_pos l.length with hz|hz
         · rw[hz];simp
         · omega
        obtain⟨v1,p1,c1⟩:=part_ok j hx1 hx2 hpos.1;obtain⟨v2,p2,c2⟩:=part_ok j hy1 hy2 hpos.2;have heq:=ih m (by omega) v1 v2 _ _ r1 c1 c2 h1;have hrest:=ihk (j+1) r2 h2;rw[List.range'_succ];simp only[Op.eqItems,Sem.run_bind,p1,p2,Result.andThen_ok,heq];cases r1
        · simp
        · simpa using hrest
      have:=go len 0 r (by simpa using he);rw[List.range_eq_range'];exact this
     · cases h
    · cases h
   · cases h
theorem zAA {t e:TypeId} {len:Nat} {ss:List Nat} {neg:Bool} {x y:Operand} {xv yv:Value} {a b:AV} (hu:P.underlying t=some (.array len e)) (hf:zsg P 5 t=some ss) (hgt:P.eqGuardType P.depth t=false)
  (hx:VR w (Lt L ι H) ι xv a) (hy:VR w (Lt L ι H) ι yv b) (hs:(eqsR neg ss a b H nx).side) :
  zaA P w L ι H nx (do eqGuard (bif neg then .neq else .eql) t x y xv yv;binOp (bif neg then .neq else .eql) t xv yv) (eqsR neg ss a b H nx):=by
 cases hx with
 |
  agg _ cs asv hsz h1 hv =>
  cases hy with
  |
   agg _ ds bs hsz2 h2 hv2 =>
   unfold eqsR at hs ⊢;simp only at hs ⊢
   cases he:zS ss asv bs with
   | none=>simp[he,bad] at hs
   |
    some r =>
    simp only[he] at hs ⊢;obtain⟨dd,hu2,key⟩:=zmD (P:=P) (w:=w) (M:=Lt L ι H) (ι:=ι) 5 t ss hf;rw[hu] at hu2;cases hu2;have hrun:(Op.equal t (.agg cs) (.agg ds)).run P w=.ok r w:=key 9999 (by omega) _ _ asv bs r ⟨cs,rfl,hsz,hv⟩ ⟨ds,rfl,hsz2,hv2⟩ he
    have hg:=fun(op:BinOp)=>run_eqGuard_agg (P:=P) w op t x y cs ds hgt
    cases neg
    · refine⟨.bool r,?_,.bool _ _,rfl,rfl,trivial⟩;simp[Sem.run_bind,hg,binOp,hrun]
    · refine⟨.bool (!r),?_,.bool _ _,rfl,rfl,trivial⟩;simp[Sem.run_bind,hg,binOp,hrun]
  | _=>simp[eqsR,bad] at hs
 | _=>cases b<;>simp[eqsR,bad] at hs
end
section
variable {P:Program} {w:World} {L:Nat→Prop} {ι:Inj} {H:AH} {nx:Nat} {M:Nat→Prop}
theorem zEY {t e ty:TypeId} {xv:Value} {x:AV} (hu:P.underlying t=some (.slice e)) (hx:VR w (Lt L ι H) ι xv x) (hs:(zxw x H nx).side):zaA P w L ι H nx (Builtin.cap_ #[t] ty #[xv]) (zxw x H nx):=by
 cases hx with
 | nilsl _=>exact⟨.int .i64 0,by simp[Builtin.cap_,run_underlying hu,goInt],.int _ _ _ (by unfold InR;decide),rfl,rfl,trivial⟩
 | _=>simp[zxw,bad] at hs
theorem zGp {t tn e ty:TypeId} {kq:IntKind} {i:TypeInfo} {z:List AV} {xv kv:Value} {x k:AV} (rel:RelH w L ι H nx) (hu:P.underlying t=some (.slice e)) (hn:P.underlying tn=some (.int kq)) (hi:P.info? e=some i) (hz:zgp P e=some z)
  (hx:VR w (Lt L ι H) ι xv x) (hk:VR w (Lt L ι H) ι kv k) (hs:(apzR i.size i.bytes z x k H nx).side):zd5 P w L ι H nx (Builtin.append_ #[t,tn] ty #[xv,kv]) (apzR i.size i.bytes z x k H nx):=by
 obtain⟨i',zv,hi',hzv,hsz,hzl,hcr⟩:=zfL hz;rw[hi] at hi';cases hi'
 cases hx with
 |
  nilsl _ =>
  cases hk with
  |
   int _ kn n hin =>
   simp only[apzR] at hs ⊢;obtain⟨h0,hb,hpos,hby⟩:=hs
   have hnb:n≤140737488355328:=by have:n * (1:Int)≤n * i.bytes:=Int.mul_le_mul_of_nonneg_left (by omega) h0;omega
   rcases Int.lt_or_eq_of_le h0 with hp|hp
   ·
    obtain⟨m,rfl⟩:∃m:Nat,n=m:=⟨n.toNat,by omega⟩;simp only[Int.toNat_natCast]
    have hmb:m * i.bytes≤140737488355328:=by
     have:((m * i.bytes:Nat):Int)≤140737488355328:=by rw[Int.natCast_mul];exact hb
     omega
    have hm:m≤maxLen:=by unfold maxLen;omega
    have hrun:=Go.Lib.run_append_nil_zeros (P:=P) w t tn ty e i zv kn kq hu hn hi hzv m (by omega) hpos (by omega) (by omega);have hge:=grownCap_ge w m 0 e;have hgm:=grownCap_le_maxLen w m 0 e hm;have hfr:=FR.zeros (n:=m) (hcr w (Lt L ι H) ι) hzl hpos
    have hsz':zv.cells.size=i.size:=by rw[hsz]
    have hsize:(Builtin.zeroCells zv.cells m++Builtin.zeroCells zv.cells (grownCap w m 0 e - m)).size=grownCap w m 0 e * i.size:=by
     rw[Array.size_append,size_zeroCells,size_zeroCells,hsz',←Wq]
     congr 1
     omega
    have c1:Chg w ι H nx 0 0 ⟨w.heap.size,0,grownCap w m 0 e,i.size⟩ (w.drew.alloc (.cells (Builtin.zeroCells zv.cells m++Builtin.zeroCells zv.cells (grownCap w m 0 e - m)) e)) :=
     ⟨rfl,rfl,rfl,by simp,fun b hb _=>Below.heap_alloc w.drew _ b hb,fun _=>.inr (We _),fun l0 h0=>(by rw[rel.freshI] at h0;cases h0),fun g2 l2 h2=>(by rw[rel.freshI] at h2;cases h2)⟩
    refine⟨_,_,_,hrun,c1.step (rel.sok i.size) rel (Wm _) (Wp _) (.mk' rfl (by rw[List.length_replicate];exact hge) hgm (fun k hk=>?_) (fun _=>FzOk.new) hfr.wide (fun k c j a hk hj=>?_)),?_,trivial⟩
    · simp only[Wx];have e1:=World.cell?_alloc_new w.drew (Builtin.zeroCells zv.cells m++Builtin.zeroCells zv.cells (grownCap w m 0 e - m)) e k;have e2:=World.frozen?_alloc_new w.drew (Builtin.zeroCells zv.cells m++Builtin.zeroCells zv.cells (grownCap w m 0 e - m)) e k;have e1':(w.drew.alloc (.cells (Builtin.zeroCells zv.cells m++Builtin.zeroCells zv.cells (grownCap w m 0 e - m)) e)).cell? ⟨w.heap.size,k,none⟩=_:=e1;have e2':(w.drew.alloc (.cells (Builtin.zeroCells zv.cells m++Builtin.zeroCells zv.cells (grownCap w m 0 e - m)) e)).frozen? ⟨w.heap.size,k,none⟩=_:=e2;rw[e1',e2'];refine⟨?_,rfl⟩;rw[Wh (by rw[hsize];exact hk)];rfl
    ·
     obtain⟨v,h1,h2,h3⟩:=hfr.rel k c j a hk hj;refine⟨v,?_,h2,c1.vr (rel.sok i.size) rel h3⟩;simp only[Wx];have e1':(w.drew.alloc (.cells (Builtin.zeroCells zv.cells m++Builtin.zeroCells zv.cells (grownCap w m 0 e - m)) e)).cell? ⟨w.heap.size,k * i.size+j,none⟩=_:=World.cell?_alloc_new w.drew _ _ _
     have h1':(Builtin.zeroCells zv.cells m)[k * i.size+j]? = some v:=by unfold Builtin.zeroCells;rw[hsz'];rw[hsz'] at h1;exact h1
     rw[e1',WY (Wl.1 h1').1];exact h1'
    · exact .own _ nx 0 0 0 m _ _ _ (Inj.put_same _ _ _ _ _) hgm hge (by simp) (fun _=>by simp)
   ·
    subst hp;have c1:Chg w ι H nx 0 0 ⟨0,0,0,i.size⟩ w:=⟨rfl,rfl,rfl,We _,fun _ _ _=>rfl,fun h=>by simp at h,fun l0 h0=>(by rw[rel.freshI] at h0;cases h0),fun g2 l2 h2=>(by rw[rel.freshI] at h2;cases h2)⟩;refine⟨.slice none 0 0,w,_,?_,c1.step (rel.sok i.size) rel (Wm _) (Wp _) (.mk' rfl (We _) (Wn _) (fun k hk=>by simp at hk) (fun h=>by simp at h) (fun k c' hk=>by simp at hk) (fun k c' j a hk _=>by simp at hk)),?_,trivial⟩
    ·
     have hw0:IntKind.i64.wrap (0:Int)=0:=by rw[IntKind.wrap_i64];omega
     simp[Builtin.append_,run_underlying hu,run_underlying hn,sizeOf,typeInfo,zeroValue,hi,hzv,asInt,asIntOf,hw0]
    · exact .own _ nx 0 0 0 0 _ 0 _ (Inj.put_same _ _ _ _ _) (Wn _) (We _) (We _) (fun h=>by omega)
  | _=>simp[apzR,bad] at hs
 | _=>cases k<;>simp[apzR,bad] at hs
end
def zk1 (w:World) (L:Nat→Prop) (ι:Inj) (H:AH) (nx:Nat) (res:Result Next) (r:ORes) (pure:Bool):Prop :=
 ∃n v w' ι',res=.ok n w'∧(n=.value v∨(n=.skip∧v=undef))∧Step w L ι H nx w' ι' r.H r.nx∧VR w' (Lt L ι' r.H) ι' v r.v∧r.fact ∧
  (pure=true→w'=w∧ι'=ι∧r.H=H∧r.nx=nx)
section
variable {P:Program} {w:World} {L:Nat→Prop} {ι:Inj} {H:AH} {nx:Nat} {M:Nat→Prop}
theorem zAy {s:Sem Value} {v:Value} {w':World} (h:s.run P w=.ok v w'):(do pure (Next.value (←s)):Sem Next).run P w=.ok (.value v) w':=by simp[Sem.run_bind,h]
theorem zF0 {s:Sem Unit} {w':World} (h:s.run P w=.ok () w'):(do s;pure Next.skip:Sem Next).run P w=.ok .skip w':=by simp[Sem.run_bind,h]
theorem zaA.done {s:Sem Value} {r:ORes} {pure:Bool} (rel:RelH w L ι H nx) (h:zaA P w L ι H nx s r):zk1 w L ι H nx ((do Pure.pure (Next.value (←s)):Sem Next).run P w) r pure:=by
 obtain⟨v,h1,h2,h3,h4,h5⟩:=h;refine⟨_,v,w,ι,zAy h1,.inl rfl,?_,?_,h5,fun _=>⟨rfl,rfl,h3,h4⟩⟩
 · rw[h3,h4];exact .refl rel
 · rw[h3];exact h2
theorem zd5.done {s:Sem Value} {r:ORes} (h:zd5 P w L ι H nx s r):zk1 w L ι H nx ((do Pure.pure (Next.value (←s)):Sem Next).run P w) r false:=by obtain⟨v,w',ι',h1,h2,h3,h4⟩:=h;exact⟨_,v,w',ι',zAy h1,.inl rfl,h2,h3,h4,fun h=>by cases h⟩
theorem zf0 {a:Act} {K:Nat→AV} (hk:KOk w M ι a.tmps K):∀ {ps:List (Nat × Operand)} {qs:List (Nat × AOpd)},(ps.mapM fun p=>do some (p.1,(←copd p.2)))=some qs →
  EL w M ι (ps.map fun p=>(p.1,a.eval p.2)) (zh4 K qs)
 | [],qs,h=>by simp at h;subst h;exact .nil
 |
  p::ps,qs,h=>by
  simp only[WE,Wb,WS,Wa,Wc] at h;obtain⟨b,⟨c,hc,rfl⟩,bs,hbs,rfl⟩:=h;exact .cons (zz hk hc) (zf0 hk hbs)
theorem zji {a:Act} {K:Nat→AV} (hk:KOk w M ι a.tmps K) {fs:Array Field} {place:Nat→Option (Nat × Nat)}
  (hpl:∀(i:Nat) (f:Field) (inf:TypeInfo),fs[i]? = some f→P.info? f.type=some inf→place i=some (f.offset,inf.size)) :
  ∀ {ps:List (Nat × Operand)} {qs:List (Nat × Nat × AOpd)},(ps.mapM fun p=>do
    let f ←fs[p.1]?
    let i ←P.info? f.type
    some (f.offset,i.size,(←copd p.2)))=some qs →
  PL w M ι place (ps.map fun p=>(p.1,a.eval p.2)) (zc6 K qs)
 | [],qs,h=>by simp at h;subst h;exact .nil
 |
  p::ps,qs,h=>by
  simp only[WE,Wb,WS,Wa,Wc] at h;obtain⟨b,⟨f,hf,i,hi,c,hc,rfl⟩,bs,hbs,rfl⟩:=h;exact .cons (hpl _ _ _ hf hi) (zz hk hc) (zji hk hpl hbs)
theorem zz9 {t:TypeId} {i:TypeInfo} (hi:P.info? t=some i) (w:World):(sizeOf t).run P w=.ok i.size w:=by simp[sizeOf,typeInfo,hi]
theorem zsk (P:Program):∀(fs:List Field),(∀f∈fs,(P.info? f.type).isSome=true)→∀w:World,
  (fs.mapM (m:=Sem) fun(f:Field)=>do pure (f.offset,←sizeOf f.type)).run P w=.ok (fs.map fun f=>(f.offset,((P.info? f.type).map (·.size)).getD 0)) w
 | [],_,w=>by simp
 |
  f::fs,h,w=>by
  have ih:=zsk P fs (fun g hg=>h g (List.mem_cons_of_mem _ hg)) w;obtain⟨i,hi⟩:=WX.1 (h f (by simp));simp only[WE,Sem.run_bind,zz9 hi,Result.andThen_ok,Sem.run_pure,WJ,hi,WL,W6,ih]
theorem zvY (P:Program) (fs:Array Field) (h:fs.toList.all (fun f=>(P.info? f.type).isSome)=true) (w:World) :
  (fs.mapM (m:=Sem) fun(f:Field)=>do pure (f.offset,←sizeOf f.type)).run P w=.ok (fs.toList.map fun f=>(f.offset,((P.info? f.type).map (·.size)).getD 0)).toArray w:=by
 rw[Array.mapM_eq_mapM_toList,Sem.run_map,zsk P fs.toList (fun f hf=>List.all_eq_true.1 h f hf) w];rfl
theorem zFP {a:Act} {K:Nat→AV} (hk:KOk w M ι a.tmps K) {x:Option Operand} {y:Option AOpd} (h:zF8 x=some y):VRO w M ι (x.map a.eval) (evO K y):=by
 cases x with
 | none=>cases h;exact .none
 |
  some x =>
  obtain⟨c,hc,rfl⟩:=Wd.1 h;exact .some (zz hk hc)
def AOp.isCall:AOp→Bool
 | .call .. | .callq .. | .callv .. | .isnil .. | .mnext ..=>true
 | _=>false
theorem zF1 {o:Oper} {ao:AOp} (h:cop0 P o=some ao) (hcall:ao.isCall=false) {a:Act} {K:Nat→AV} (rel:RelH w L ι H nx) (hk:KOk w (Lt L ι H) ι a.tmps K) (hs:(aop ao K H nx).side) :
  zk1 w L ι H nx ((execOp a.eval o).run P w) (aop ao K H nx) ao.pure:=by
 have mov:∀x:Operand,o.op=.move x∨o.op=.assign x→(match x with
   |
    .const (.slice none 0 0)=>match P.underlying o.type with
    |
     some (.slice e)=>match P.info? e with
     | some i=>if 0 < i.size then some (AOp.mknil i.size) else none
     | none=>none
    | _=>none
   | _=>(copd x).map .mov)=some ao→zk1 w L ι H nx (.ok (.value (a.eval x)) w) (aop ao K H nx) ao.pure:=by
  intro x _ hx;split at hx
  ·
   split at hx
   ·
    split at hx
    ·
     split at hx
     · rename_i i hi hpos;cases hx;refine⟨_,_,w,_,rfl,.inl rfl,Step.phantom rel i.size,?_,trivial,fun h=>by cases h⟩;exact .own _ nx 0 0 0 0 _ 0 _ (Inj.put_same _ _ _ _ _) (Wn _) (We _) (We _) (fun h=>absurd h (Nat.lt_irrefl 0))
     · cases hx
    · cases hx
   · cases hx
  · obtain⟨c,hc,rfl⟩:=Wd.1 hx;exact⟨_,_,w,ι,rfl,.inl rfl,.refl rel,zz hk hc,trivial,fun _=>⟨rfl,rfl,rfl,rfl⟩⟩
 unfold cop0 at h;unfold execOp
 cases hop:o.op with
 | move x=>rw[hop] at h;exact mov x (.inl hop) h
 | assign x=>rw[hop] at h;exact mov x (.inr hop) h
 |
  pick c x y =>
  rw[hop] at h;simp only[Wb,Wa,Wc] at h;obtain⟨c',hc,x',hx,y',hy,rfl⟩:=h;have:=(zD0 (P:=P) (zz hk hc) (zz hk hx) (zz hk hy) hs).done (pure:=true) rel;simp[Sem.run_bind] at this ⊢;exact this
 |
  alloc e =>
  rw[hop] at h;obtain⟨z,hz,rfl⟩:=Wd.1 h;exact(zCb rel hz).done
 |
  box e x =>
  rw[hop] at h;obtain⟨x',hx,rfl⟩:=Wd.1 h;exact(zGs rel (zz hk hx) hs).done
 |
  load t x =>
  rw[hop] at h;simp only at h;split at h
  ·
   rename_i d i hu hi;split at h
   ·
    rename_i hd;obtain⟨x',hx,rfl⟩:=Wd.1 h
    have hs':(zcP (zcb d) i.size (ev K x') H nx).side:=by rw[hd];exact hs
    have:zaA P w L ι H nx (Instr.loadAt t (a.eval x)) (zcP (zcb d) i.size (ev K x') H nx):=ztu hu hi rel (zz hk hx) (by rw[if_pos hd]) hs';rw[hd] at this;exact this.done rel
   ·
    rename_i hd
    have hd':zcb d=false:=by simpa using hd
    obtain⟨x',hx,rfl⟩:=Wd.1 h
    have hs':(zcP (zcb d) 1 (ev K x') H nx).side:=by rw[hd'];exact hs
    have:zaA P w L ι H nx (Instr.loadAt t (a.eval x)) (zcP (zcb d) 1 (ev K x') H nx):=ztu hu hi rel (zz hk hx) (by rw[if_neg hd]) hs';rw[hd'] at this;exact this.done rel
  · cases h
 |
  store t x y =>
  rw[hop] at h;simp only at h;split at h
  · rename_i i hi;simp only[Wb,Wa,Wc] at h;obtain⟨x',hx,y',hy,rfl⟩:=h;obtain⟨w',ι',h1,h2,h3,h4⟩:=zCx rel hi (zz hk hx) (zz hk hy) hs;exact⟨_,undef,w',ι',zF0 h1,.inr ⟨rfl,rfl⟩,h2,by rw[show (aop (.store i.size x' y') K H nx).v=.undef from h4];exact .undef _ _,h3,fun h=>by cases h⟩
  · cases h
 |
  build t parts =>
  rw[hop] at h;simp only at h;split at h
  ·
   rename_i fs z hu hz;split at h
   ·
    rename_i hall;simp only[Wb,Wa,Wc] at h;obtain⟨ps,hps,rfl⟩:=h
    have hpl:=zji (P:=P) hk (fs:=fs) (place:=fun i=>(fs.toList.map fun f=>(f.offset,((P.info? f.type).map (·.size)).getD 0)).toArray[i]?) (fun i f inf hf hi=>by
     rw[WD,Ww,Wk,hf]
     simp[hi]) (by simpa using hps)
    have hmap:(parts.map fun(p:Nat × Operand)=>(p.1,a.eval p.2)).toList=parts.toList.map fun p=>(p.1,a.eval p.2):=by simp
    have:=zBX (P:=P) (parts:=parts.map fun(p:Nat × Operand)=>(p.1,a.eval p.2)) hu hz (fun w=>zvY P fs hall w) (by rw[hmap];exact hpl) hs;exact this.done rel
   · cases h
  · cases h
 |
  buildSlice t len parts =>
  rw[hop] at h;simp only at h;split at h
  ·
   rename_i e hu;split at h
   ·
    rename_i i z hi hz;split at h
    ·
     rename_i hc;simp only[Wb,Wa,Wc] at h;obtain⟨ps,hps,rfl⟩:=h;have hel:=zf0 hk (by simpa using hps)
     have hmap:(parts.map fun(p:Nat × Operand)=>(p.1,a.eval p.2)).toList=parts.toList.map fun p=>(p.1,a.eval p.2):=by simp
     have:=zv7 (P:=P) (parts:=parts.map fun(p:Nat × Operand)=>(p.1,a.eval p.2)) rel hu hi hz hc.1 hc.2 (by rw[hmap];exact hel) hs;exact this.done
    · cases h
   · cases h
  · cases h
 |
  binOp op t x y yt =>
  rw[hop] at h;simp only at h;split at h
  · simp only[Wb,Wa,Wc] at h;obtain⟨x',hx,y',hy,rfl⟩:=h;exact(zGt (P:=P) (zz hk hx) (zz hk hy) hs).done rel
  ·
   rename_i hu;split at h
   · simp only[Wb,Wa,Wc] at h;obtain⟨x',hx,y',hy,rfl⟩:=h;exact(zFQ (P:=P) (neg:=false) hu (zz hk hx) (zz hk hy) hs).done rel
   · simp only[Wb,Wa,Wc] at h;obtain⟨x',hx,y',hy,rfl⟩:=h;exact(zFQ (P:=P) (neg:=true) hu (zz hk hx) (zz hk hy) hs).done rel
   · cases h
  ·
   exfalso
   (repeat' split at h)<;>first | (cases h;done) | (obtain⟨_,_,rfl⟩:=Wd.1 h;cases hcall)
  ·
   exfalso
   (repeat' split at h)<;>first | (cases h;done) | (obtain⟨_,_,rfl⟩:=Wd.1 h;cases hcall)
  · cases h
 |
  unOp op t x =>
  rw[hop] at h;obtain⟨x',hx,rfl⟩:=Wd.1 h;exact(unR_ok (P:=P) (zz hk hx) hs).done rel
 |
  convert s d x =>
  rw[hop] at h;simp only at h;split at h
  · rename_i k' k h1 h2;obtain⟨x',hx,rfl⟩:=Wd.1 h;exact(zDL (P:=P) h1 h2 (zz hk hx) hs).done rel
  · cases h
 |
  makeFunc fn first caps =>
  rw[hop] at h;simp only at h;split at h
  ·
   rename_i hf;obtain⟨cs,hcs,rfl⟩:=Wd.1 h;have hvs:=zmy hk hcs;have hfe:first=#[]:=Wab hf;subst hfe;refine⟨_,.func fn #[] (caps.map a.eval),w,ι,?_,.inl rfl,.refl rel,?_,trivial,fun _=>⟨rfl,rfl,rfl,rfl⟩⟩
   · simp[Instr.makeFunc,Sem.run_bind]
   ·
    refine .fn _ _ _ _ ?_ (fun i v b h1 h2=>hvs.get i v b ?_ h2)
    · rw[Array.size_map,←hvs.length];simp
    · rw[←h1,←Wk,WZ]
  · cases h
 |
  makeSlice t l c =>
  rw[hop] at h;simp only at h;split at h
  ·
   rename_i e hu;split at h
   ·
    rename_i i z hi hz;split at h
    · rename_i hpos;simp only[Wb,Wa,Wc] at h;obtain⟨l',hl,c',hc,rfl⟩:=h;exact(zEH (P:=P) rel hu hi hz hpos (zz hk hl) (zz hk hc) hs).done
    · cases h
   · cases h
  · cases h
 |
  slice t x lo hi mx =>
  rw[hop] at h;simp only at h;split at h
  ·
   rename_i e hu;split at h
   ·
    rename_i i hinf;split at h
    ·
     simp only[Wb,Wa] at h;obtain⟨x',hx,l',hl,h',hh,h⟩:=h;split at h
     · cases h;have:=zCu (P:=P) rel hu hinf (zz hk hx) (zFP hk hl) (zFP hk hh) hs;exact this.done rel
     · cases h
    ·
     split at h
     · obtain⟨x',hx,rfl⟩:=Wd.1 h;have:=zGP (P:=P) hu hinf (zz hk hx) hs;exact this.done rel
     · cases h
    · cases h
   · cases h
  · cases h
 |
  fieldAddr s x f =>
  rw[hop] at h;simp only at h;split at h
  ·
   rename_i fs hu;simp only[Wb,Wa] at h;obtain⟨fd,hf,i,hi,h⟩:=h;split at h
   · rename_i hpos;obtain⟨x',hx,h⟩:=Wa.1 h;cases h;exact(zwf (P:=P) hu hf hi hpos (zz hk hx) hs).done rel
   · cases h
  · cases h
 |
  field s x f =>
  rw[hop] at h;simp only at h;split at h
  ·
   rename_i fs hu;simp only[Wb,Wa] at h;obtain⟨fd,hf,i,hi,d,hd,h⟩:=h;split at h
   ·
    rename_i hr;obtain⟨x',hx,h⟩:=Wa.1 h;cases h
    have hs':(fldR fd.offset i.size (zcb d) (ev K x') H nx).side:=by rw[hr];exact hs
    have:=zBR (P:=P) hu hf hi hd (zz hk hx) (by rw[if_pos hr]) hs';rw[hr] at this;exact this.done rel
   ·
    rename_i hr
    have hr':zcb d=false:=by simpa using hr
    obtain⟨x',hx,h⟩:=Wa.1 h;cases h
    have hs':(fldR fd.offset 1 (zcb d) (ev K x') H nx).side:=by rw[hr'];exact hs
    have:=zBR (P:=P) hu hf hi hd (zz hk hx) (by rw[if_neg hr]) hs';rw[hr'] at this;exact this.done rel
  · cases h
 |
  indexAddr t x i =>
  rw[hop] at h;simp only at h;split at h
  ·
   rename_i e hu;split at h
   ·
    rename_i inf hi;split at h
    · rename_i hpos;simp only[Wb,Wa,Wc] at h;obtain⟨x',hx,i',hi',rfl⟩:=h;exact(zG1 (P:=P) hu hi hpos rel (zz hk hx) (zz hk hi') hs).done rel
    · cases h
   · cases h
  · cases h
 |
  extract x i =>
  rw[hop] at h;obtain⟨x',hx,rfl⟩:=Wd.1 h;exact(zGH (P:=P) (zz hk hx) hs).done rel
 |
  call c =>
  rw[hop] at h;simp only at h;split at h
  ·
   rename_i b hb
   have hrun:∀(s:Sem Value) (bb:Bool),(∀w:World,(do let d ←resolve a.eval c o.type;invoke d.target d.args:Sem Next).run P w=(do Pure.pure (Next.value (←s)):Sem Next).run P w) →
     (∀r,zk1 w L ι H nx ((do Pure.pure (Next.value (←s)):Sem Next).run P w) r bb→zk1 w L ι H nx ((do let d ←resolve a.eval c o.type;invoke d.target d.args:Sem Next).run P w) r bb):=by
    intro s bb he r hd;rw[he];exact hd
   unfold zfK at h;split at h
   ·
    rename_i t x ht hx
    have hat:c.argTypes=#[t]:=by rw[←Wf (xs:=c.argTypes),ht]
    have hax:c.args=#[x]:=by rw[←Wf (xs:=c.args),hx]
    split at h
    · rename_i e hu;obtain⟨x',hx',rfl⟩:=Wd.1 h;exact hrun (Builtin.len_ #[t] o.type #[a.eval x]) true (fun w=>by simp[resolve,hb,hat,hax,invoke,builtin]) _ ((zGo (P:=P) hu (zz hk hx') hs).done rel)
    · rename_i hu;obtain⟨x',hx',rfl⟩:=Wd.1 h;exact hrun (Builtin.len_ #[t] o.type #[a.eval x]) true (fun w=>by simp[resolve,hb,hat,hax,invoke,builtin]) _ ((zDC (P:=P) hu (zz hk hx') hs).done rel)
    · cases h
   ·
    rename_i t u x y ht hx
    have hat:c.argTypes=#[t,u]:=by rw[←Wf (xs:=c.argTypes),ht]
    have hax:c.args=#[x,y]:=by rw[←Wf (xs:=c.args),hx]
    split at h
    ·
     rename_i e e' hu hu';split at h
     ·
      rename_i i z hi hz;split at h
      · rename_i hc;simp only[Wb,Wa,Wc] at h;obtain⟨x',hx',y',hy',rfl⟩:=h;exact hrun (Builtin.append_ #[t,u] o.type #[a.eval x,a.eval y]) false (fun w=>by simp[resolve,hb,hat,hax,invoke,builtin]) _ (zy6 (P:=P) rel hu hu' hi hz hc.2.1 hc.2.2 (zz hk hx') (zz hk hy') hs).done
      · cases h
     · cases h
    · cases h
   ·
    rename_i t x ht hx
    have hat:c.argTypes=#[t]:=by rw[←Wf (xs:=c.argTypes),ht]
    have hax:c.args=#[x]:=by rw[←Wf (xs:=c.args),hx]
    split at h
    ·
     rename_i e hu;split at h
     ·
      rename_i i z hi hz;split at h
      · rename_i hpos;obtain⟨x',hx',h⟩:=Wa.1 h;cases h;exact hrun (Builtin.clear_ #[t] o.type #[a.eval x]) false (fun w=>by simp[resolve,hb,hat,hax,invoke,builtin]) _ (zCl (P:=P) rel hu hi hz hpos (zz hk hx') hs).done
      · cases h
     · cases h
    · cases h
   · cases h
  ·
   split at h
   ·
    split at h
    · obtain⟨x',hx',rfl⟩:=Wd.1 h;cases hcall
    · cases h
   · cases h
  · obtain⟨x',hx',rfl⟩:=Wd.1 h;cases hcall
  · cases h
 | _=>rw[hop] at h;cases h
theorem zAB {xv:Value} {x:AV} (rel:RelH w L ι H nx) (hx:VR w (Lt L ι H) ι xv x) (hs:(zk2 x H nx).side):(∃ad,xv=.pointer (some ad))∧(zk2 x H nx).v=x∧(zk2 x H nx).H=H∧(zk2 x H nx).nx=nx∧(zk2 x H nx).fact:=by
 cases hx with
 | ptr=>exact⟨⟨_,rfl⟩,rfl,rfl,rfl,trivial⟩
 | iptr=>exact⟨⟨_,rfl⟩,rfl,rfl,rfl,trivial⟩
 | _=>simp[zk2,bad] at hs
theorem zGG {o:Oper} {x:XOp} {xs:List AOpd} (h:cxop P o=some (x,xs)) {a:Act} {K:Nat→AV} (rel:RelH w L ι H nx) (hk:KOk w (Lt L ι H) ι a.tmps K) (hs:(xopR x (evs K xs) H nx).side) :
  zk1 w L ι H nx ((execOp a.eval o).run P w) (xopR x (evs K xs) H nx) x.pure:=by
 unfold cxop at h;unfold execOp
 cases hop:o.op with
 |
  nilCheck y =>
  rw[hop] at h;simp only[Wb,Wa,Wc,Wg] at h;obtain⟨y',hy,rfl,rfl⟩:=h;simp only[evs,xopR] at hs ⊢;have hv:=zz hk hy;obtain⟨⟨ad,had⟩,h1,h2,h3,h4⟩:=zAB rel hv hs;refine⟨_,a.eval y,w,ι,?_,.inl rfl,by rw[h2,h3];exact .refl rel,by rw[h1,h2];exact hv,h4,fun _=>⟨rfl,rfl,h2,h3⟩⟩;rw[had];rfl
 |
  convert s d y =>
  rw[hop] at h;simp only at h;split at h
  ·
   rename_i e e' hs1 hd1;split at h
   · rename_i hc;obtain⟨rfl,hb⟩:=hc;simp only[Wb,Wa,Wc,Wg] at h;obtain⟨y',hy,rfl,rfl⟩:=h;simp only[evs,xopR] at hs ⊢;exact(zEl rel hs1 hb (zz hk hy) hs).done
   · cases h
  ·
   rename_i e hs1 hd1;split at h
   · rename_i hb;simp only[Wb,Wa,Wc,Wg] at h;obtain⟨y',hy,rfl,rfl⟩:=h;simp only[evs,xopR] at hs ⊢;exact(zG3 rel hs1 hd1 hb (zz hk hy) hs).done rel
   · cases h
  ·
   rename_i e hs1 hd1;split at h
   · rename_i hb;simp only[Wb,Wa,Wc,Wg] at h;obtain⟨y',hy,rfl,rfl⟩:=h;simp only[evs,xopR] at hs ⊢;exact(zGO rel hs1 hd1 hb (zz hk hy) hs).done
   · cases h
  · cases h
 |
  binOp op t y z yt =>
  rw[hop] at h;simp only at h;split at h
  ·
   split at h
   · simp only[Wb,Wa,Wc,Wg] at h;obtain⟨y',hy,z',hz,rfl,rfl⟩:=h;simp only[evs,xopR] at hs ⊢;exact(zBM (P:=P) (neg:=false) (zz hk hy) (zz hk hz) hs).done rel
   · simp only[Wb,Wa,Wc,Wg] at h;obtain⟨y',hy,z',hz,rfl,rfl⟩:=h;simp only[evs,xopR] at hs ⊢;exact(zBM (P:=P) (neg:=true) (zz hk hy) (zz hk hz) hs).done rel
   · cases h
  ·
   rename_i fs hu;split at h
   ·
    rename_i ss hf;split at h
    ·
     rename_i hg;split at h
     · simp only[Wb,Wa,Wc,Wg] at h;obtain⟨y',hy,z',hz,rfl,rfl⟩:=h;simp only[evs,xopR] at hs ⊢;exact(zCo (P:=P) (neg:=false) hu hf hg.1 hg.2 (zz hk hy) (zz hk hz) hs).done rel
     · simp only[Wb,Wa,Wc,Wg] at h;obtain⟨y',hy,z',hz,rfl,rfl⟩:=h;simp only[evs,xopR] at hs ⊢;exact(zCo (P:=P) (neg:=true) hu hf hg.1 hg.2 (zz hk hy) (zz hk hz) hs).done rel
     · cases h
    · cases h
   · cases h
  · cases h
 |
  index t y z =>
  rw[hop] at h;simp only at h;split at h
  · rename_i hu;simp only[Wb,Wa,Wc,Wg] at h;obtain⟨y',hy,z',hz,rfl,rfl⟩:=h;simp only[evs,xopR] at hs ⊢;exact(zEI (P:=P) hu (zz hk hy) (zz hk hz) hs).done rel
  · cases h
 |
  slice t y lo hi mx =>
  rw[hop] at h;simp only at h;split at h
  ·
   rename_i hi mx;split at h
   ·
    rename_i e hu;split at h
    ·
     rename_i i hinf;split at h
     · simp only[Wb,Wa,Wc,Wg] at h;obtain⟨y',hy,z',hz,z2,hz2,rfl,rfl⟩:=h;simp only[evs,xopR] at hs ⊢;exact(zG0 (P:=P) rel hu hinf (zz hk hy) (zz hk hz) (zz hk hz2) hs).done rel
     · cases h
    · cases h
   · cases h
  · cases h
 |
  makeMap t r =>
  rw[hop] at h;simp only at h;split at h
  · cases h;simp only[evs,xopR] at hs ⊢;exact(zBN (P:=P) rel).done
  · cases h
 |
  lookup t y k ok =>
  rw[hop] at h;simp only at h;split at h
  ·
   rename_i kt et hu;split at h
   · rename_i str z hkk hz;simp only[Wb,Wa,Wc,Wg] at h;obtain⟨y',hy,k',hk',rfl,rfl⟩:=h;simp only[evs,xopR] at hs ⊢;exact(zC5 (P:=P) rel hu hkk hz (zz hk hy) (zz hk hk') hs).done rel
   · cases h
  · cases h
 |
  mapUpdate t m k v =>
  rw[hop] at h;simp only at h;split at h
  ·
   rename_i kt et hu;split at h
   · rename_i str hkk;simp only[Wb,Wa,Wc,Wg] at h;obtain⟨m',hm,k',hk',v',hv,rfl,rfl⟩:=h;simp only[evs,xopR] at hs ⊢;obtain⟨w',ι',h1,h2,h3,h4⟩:=zxO (P:=P) rel hu hkk (zz hk hm) (zz hk hk') (zz hk hv) hs;exact⟨_,undef,w',ι',zF0 h1,.inr ⟨rfl,rfl⟩,h2,by rw[h4];exact .undef _ _,h3,fun h=>by cases h⟩
   · cases h
  · cases h
 |
  call c =>
  rw[hop] at h;simp only at h;split at h
  ·
   rename_i b hb;split at h
   ·
    rename_i t1 t2 y z ht hx
    have hat:c.argTypes=#[t1,t2]:=by rw[←Wf (xs:=c.argTypes),ht]
    have hax:c.args=#[y,z]:=by rw[←Wf (xs:=c.args),hx]
    simp only[Wb,Wa,Wc,Wg] at h;obtain⟨y',hy,z',hz,rfl,rfl⟩:=h;simp only[evs,xopR] at hs ⊢;have hd:=(zCZ (P:=P) (mx:=false) (ts:=#[t1,t2]) (ty:=o.type) (zz hk hy) (zz hk hz) hs).done (pure:=true) rel
    have e:(do let d ←resolve a.eval c o.type;invoke d.target d.args:Sem Next).run P w=(do Pure.pure (Next.value (←Builtin.min_ #[t1,t2] o.type #[a.eval y,a.eval z])):Sem Next).run P w:=by simp[resolve,hb,hat,hax,invoke,builtin]
    rw[e];exact hd
   ·
    rename_i t1 t2 y z ht hx
    have hat:c.argTypes=#[t1,t2]:=by rw[←Wf (xs:=c.argTypes),ht]
    have hax:c.args=#[y,z]:=by rw[←Wf (xs:=c.args),hx]
    simp only[Wb,Wa,Wc,Wg] at h;obtain⟨y',hy,z',hz,rfl,rfl⟩:=h;simp only[evs,xopR] at hs ⊢;have hd:=(zCZ (P:=P) (mx:=true) (ts:=#[t1,t2]) (ty:=o.type) (zz hk hy) (zz hk hz) hs).done (pure:=true) rel
    have e:(do let d ←resolve a.eval c o.type;invoke d.target d.args:Sem Next).run P w=(do Pure.pure (Next.value (←Builtin.max_ #[t1,t2] o.type #[a.eval y,a.eval z])):Sem Next).run P w:=by simp[resolve,hb,hat,hax,invoke,builtin]
    rw[e];exact hd
   ·
    rename_i t1 t2 y z ht hx
    have hat:c.argTypes=#[t1,t2]:=by rw[←Wf (xs:=c.argTypes),ht]
    have hax:c.args=#[y,z]:=by rw[←Wf (xs:=c.args),hx]
    split at h
    ·
     rename_i e hu hu2;split at h
     ·
      rename_i hby;simp only[Wb,Wa,Wc,Wg] at h;obtain⟨y',hy,z',hz,rfl,rfl⟩:=h;simp only[evs,xopR] at hs ⊢;have hd:=(zEF (P:=P) (ty:=o.type) rel hu hu2 hby (zz hk hy) (zz hk hz) hs).done
      have e:(do let d ←resolve a.eval c o.type;invoke d.target d.args:Sem Next).run P w=(do Pure.pure (Next.value (←Builtin.append_ #[t1,t2] o.type #[a.eval y,a.eval z])):Sem Next).run P w:=by simp[resolve,hb,hat,hax,invoke,builtin]
      rw[e];exact hd
     · cases h
    · cases h
   · cases h
  · cases h
 | _=>rw[hop] at h;cases h
theorem zh2 {a:Act} {K:Nat→AV} (hk:KOk w M ι a.tmps K) {n:Nat}:∀ {ps:List (Nat × Operand)} {qs:List (Nat × Nat × AOpd)},(ps.mapM fun p=>do some (p.1 * n,n,(←copd p.2)))=some qs →
  PL w M ι (fun j=>some (j * n,n)) (ps.map fun p=>(p.1,a.eval p.2)) (zc6 K qs)
 | [],qs,h=>by simp at h;subst h;exact .nil
 |
  p::ps,qs,h=>by
  simp only[WE,Wb,WS,Wa,Wc] at h;obtain⟨b,⟨c,hc,rfl⟩,bs,hbs,rfl⟩:=h;exact .cons rfl (zz hk hc) (zh2 hk hbs)
theorem zEK {o:Oper} {ao:AOp} (h:zAs P o=some ao) (hcall:ao.isCall=false) {a:Act} {K:Nat→AV} (rel:RelH w L ι H nx) (hk:KOk w (Lt L ι H) ι a.tmps K) (hs:(aop ao K H nx).side) :
  zk1 w L ι H nx ((execOp a.eval o).run P w) (aop ao K H nx) ao.pure:=by
 unfold zAs at h;unfold execOp
 cases hop:o.op with
 |
  range t x =>
  rw[hop] at h;simp only at h;split at h
  · rename_i kt et hu;obtain⟨x',hx,rfl⟩:=Wd.1 h;exact(zyM (P:=P) rel hu (zz hk hx) hs).done
  · cases h
 |
  next x s =>
  rw[hop] at h;simp only at h;split at h
  · obtain⟨x',hx,rfl⟩:=Wd.1 h;cases hcall
  · cases h
 |
  entry x =>
  rw[hop] at h;simp only at h;obtain⟨x',hx,rfl⟩:=Wd.1 h;exact(zDE (P:=P) rel (zz hk hx) hs).done rel
 |
  insert t m k v =>
  rw[hop] at h;simp only at h;split at h
  ·
   rename_i kt et hu;split at h
   · rename_i str hkk;simp only[Wb,Wa,Wc] at h;obtain⟨m',hm,k',hk',v',hv,rfl⟩:=h;obtain⟨w',ι',h1,h2,h3,h4⟩:=zxO (P:=P) rel hu hkk (zz hk hm) (zz hk hk') (zz hk hv) hs;exact⟨_,undef,w',ι',zF0 h1,.inr ⟨rfl,rfl⟩,h2,by rw[show (aop (.xop (.mset str) [m',k',v']) K H nx).v=.undef from h4];exact .undef _ _,h3,fun h=>by cases h⟩
   · cases h
  · cases h
 |
  index t x i =>
  rw[hop] at h;simp only at h;split at h
  ·
   rename_i len e hu;split at h
   ·
    rename_i inf d hi hd;split at h
    · rename_i hone;simp only[Wb,Wa,Wc] at h;obtain⟨x',hx,i',hi',rfl⟩:=h;exact(zD4 (P:=P) hu hi hd hone (zz hk hx) (zz hk hi') hs).done (pure:=true) rel
    · cases h
   · cases h
  · cases h
 |
  indexAddr t x i =>
  rw[hop] at h;simp only at h;split at h
  ·
   rename_i len e hu;split at h
   ·
    rename_i inf hi;split at h
    · rename_i hpos;simp only[Wb,Wa,Wc] at h;obtain⟨x',hx,i',hi',rfl⟩:=h;exact(zAJ (P:=P) hu hi hpos (zz hk hx) (zz hk hi') hs).done (pure:=true) rel
    · cases h
   · cases h
  · cases h
 |
  build t parts =>
  rw[hop] at h;simp only at h;split at h
  ·
   rename_i len e z hu hz;split at h
   ·
    rename_i i hi;simp only[Wb,Wa,Wc] at h;obtain⟨ps,hps,rfl⟩:=h
    have hmap:(parts.map fun(p:Nat × Operand)=>(p.1,a.eval p.2)).toList=parts.toList.map fun p=>(p.1,a.eval p.2):=by simp
    have:=zzW (P:=P) (w:=w) (parts:=parts.map fun(p:Nat × Operand)=>(p.1,a.eval p.2)) hu hi hz (by rw[hmap];exact zh2 hk (by simpa using hps)) hs;exact this.done rel
   · cases h
  · cases h
 |
  binOp op t x y ty =>
  rw[hop] at h;simp only at h;split at h
  ·
   rename_i len e hu;split at h
   ·
    rename_i ss hss;split at h
    ·
     rename_i hg;split at h
     · simp only[Wb,Wa,Wc] at h;obtain⟨x',hx,y',hy,rfl⟩:=h;exact(zAA (P:=P) (neg:=false) hu hss hg (zz hk hx) (zz hk hy) hs).done (pure:=true) rel
     · simp only[Wb,Wa,Wc] at h;obtain⟨x',hx,y',hy,rfl⟩:=h;exact(zAA (P:=P) (neg:=true) hu hss hg (zz hk hx) (zz hk hy) hs).done (pure:=true) rel
     · cases h
    · cases h
   · cases h
  · cases h
 |
  call c =>
  rw[hop] at h;simp only at h;split at h
  ·
   rename_i b hb;split at h
   ·
    rename_i t x ht hx
    have hat:c.argTypes=#[t]:=by rw[←Wf (xs:=c.argTypes),ht]
    have hax:c.args=#[x]:=by rw[←Wf (xs:=c.args),hx]
    split at h
    ·
     rename_i kt et hu;obtain⟨y',hy,rfl⟩:=Wd.1 h;have hd:=(zDt (P:=P) (ty:=o.type) rel hu (zz hk hy) hs).done (pure:=true) rel
     have e:(do let d ←resolve a.eval c o.type;invoke d.target d.args:Sem Next).run P w=(do Pure.pure (Next.value (←Builtin.len_ #[t] o.type #[a.eval x])):Sem Next).run P w:=by simp[resolve,hb,hat,hax,invoke,Sem.run_bind,builtin]
     rw[e];exact hd
    · cases h
   ·
    rename_i t x ht hx
    have hat:c.argTypes=#[t]:=by rw[←Wf (xs:=c.argTypes),ht]
    have hax:c.args=#[x]:=by rw[←Wf (xs:=c.args),hx]
    split at h
    ·
     rename_i et hu;obtain⟨y',hy,rfl⟩:=Wd.1 h;have hd:=(zEY (P:=P) (ty:=o.type) hu (zz hk hy) hs).done (pure:=true) rel
     have e:(do let d ←resolve a.eval c o.type;invoke d.target d.args:Sem Next).run P w=(do Pure.pure (Next.value (←Builtin.cap_ #[t] o.type #[a.eval x])):Sem Next).run P w:=by simp[resolve,hb,hat,hax,invoke,Sem.run_bind,builtin]
     rw[e];exact hd
    · cases h
   ·
    rename_i t u x k ht hx
    have hat:c.argTypes=#[t,u]:=by rw[←Wf (xs:=c.argTypes),ht]
    have hax:c.args=#[x,k]:=by rw[←Wf (xs:=c.args),hx]
    split at h
    ·
     rename_i et kq hu hq;split at h
     ·
      rename_i i z hi hz;simp only[Wb,Wa,Wc] at h;obtain⟨x',hx',k',hk',rfl⟩:=h;have hd:=(zGp (P:=P) (ty:=o.type) rel hu hq hi hz (zz hk hx') (zz hk hk') hs).done
      have e:(do let d ←resolve a.eval c o.type;invoke d.target d.args:Sem Next).run P w=(do Pure.pure (Next.value (←Builtin.append_ #[t,u] o.type #[a.eval x,a.eval k])):Sem Next).run P w:=by simp[resolve,hb,hat,hax,invoke,Sem.run_bind,builtin]
      rw[e];exact hd
     · cases h
    · cases h
   ·
    rename_i t t2 x k ht hx
    have hat:c.argTypes=#[t,t2]:=by rw[←Wf (xs:=c.argTypes),ht]
    have hax:c.args=#[x,k]:=by rw[←Wf (xs:=c.args),hx]
    split at h
    ·
     rename_i kt et hu;split at h
     ·
      rename_i str hkk;simp only[Wb,Wa,Wc] at h;obtain⟨x',hx',k',hk',rfl⟩:=h;have hd:=(zDS (P:=P) (ts:=#[t,t2]) (ty:=o.type) rel rfl hu hkk (zz hk hx') (zz hk hk') hs).done
      have e:(do let d ←resolve a.eval c o.type;invoke d.target d.args:Sem Next).run P w=(do Pure.pure (Next.value (←Builtin.delete_ #[t,t2] o.type #[a.eval x,a.eval k])):Sem Next).run P w:=by simp[resolve,hb,hat,hax,invoke,Sem.run_bind,builtin]
      rw[e];exact hd
     · cases h
    · cases h
   · cases h
  · cases h
 | _=>rw[hop] at h;cases h
theorem zFS {o:Oper} {ao:AOp} (h:cyop P o=some ao) (hcall:ao.isCall=false) {a:Act} {K:Nat→AV} (rel:RelH w L ι H nx) (hk:KOk w (Lt L ι H) ι a.tmps K) (hs:(aop ao K H nx).side) :
  zk1 w L ι H nx ((execOp a.eval o).run P w) (aop ao K H nx) ao.pure:=by
 unfold cyop at h;split at h
 · rename_i a0 h0;cases h;exact zEK h0 hcall rel hk hs
 · cases h;exact False.elim hs
theorem cop_ok {o:Oper} {ao:AOp} (h:cop P o=some ao) (hcall:ao.isCall=false) {a:Act} {K:Nat→AV} (rel:RelH w L ι H nx) (hk:KOk w (Lt L ι H) ι a.tmps K) (hs:(aop ao K H nx).side) :
  zk1 w L ι H nx ((execOp a.eval o).run P w) (aop ao K H nx) ao.pure:=by
 unfold cop at h;split at h
 · rename_i a0 h0;cases h;exact zF1 h0 hcall rel hk hs
 ·
  split at h
  · rename_i p hp;cases h;exact zGG hp rel hk hs
  · exact zFS h hcall rel hk hs
end
inductive AExit where
 | normal
 | exit (id:Nat)
 | ret
 | goto (l:Nat)
abbrev QT:=AExit→Kn→AH→Nat→Prop
def zab (P:Program) (f:FuncId) (args:List AV) (H:AH) (nx:Nat) (Q:AV→AH→Nat→Prop):Prop :=
 ∀(w:World) (L:Nat→Prop) (ι:Inj) (vs:Array Value),RelH w L ι H nx→VRs w (Lt L ι H) ι vs.toList args →
  Calls P f vs w (fun e w'=>∃v ι' H' nx' a,e=.returned v∧Step w L ι H nx w' ι' H' nx'∧nx≤nx'∧VR w' (Lt L ι' H') ι' v a∧Q a H' nx')
def zc0 (P:Program) (f:FuncId) (args:List AV) (H:AH) (nx:Nat) (a:AV):Prop :=
 ∀(w:World) (L:Nat→Prop) (ι:Inj) (vs:Array Value),RelH w L ι H nx→VRs w (Lt L ι H) ι vs.toList args →
  Calls P f vs w (fun e w'=>∃v,e=.returned v∧Step w L ι H nx w' ι H nx∧VR w' (Lt L ι H) ι v a)
def CallQ (P:Program) (f:FuncId) (args:List AV) (H:AH) (nx:Nat) (Q:AV→Prop):Prop:=∃a,zc0 P f args H nx a∧Q a
def zeW (t:Bool) (A B:Prop):Prop:=(t=true→A)∧(t=false→B)
theorem zeW.true (A B:Prop):zeW true A B=A:=by simp[zeW]
theorem zeW.false (A B:Prop):zeW false A B=B:=by simp[zeW]
def zfv (P:Program) (f:FuncId):Bool:=match P.funcs[f]? with
 | some fn=>fn.body.isSome && !(fn.name == "runtime.NumGoroutine")
 | none=>false
def setO (K:Kn):Option Nat→AV→Kn
 | none,_=>K
 | some d,v=>K.set d v
def zk5 (fx:Bool) (r:ORes) (k:AV→AH→Nat→Prop):Prop:=r.side∧((bif fx then r.fact else True)→k r.v r.H r.nx)
def bornOk (since:Int) (es:List (List AV)):Prop:=∀e∈es,∃b,e.getD 2 .undef=.int .i64 b∧b < since
def seenOk (seen:List (List AV)):Prop:=∀s∈seen,∃b,s=[.int .i64 b]
def zun (v:AV) (seen:List (List AV)):Bool:=match v with
 |
  .int _ b=>seen.any fun s=>match s with
  | [.int _ b']=>decide (b'=b)
  | _=>false
 | _=>false
def zxu (seen es:List (List AV)):List (List AV):=es.filter fun e => !zun (e.getD 2 .undef) seen
def zlp (x:AV) (H:AH) (nx:Nat) (k:AV→AH→Nat→Prop):Prop :=
 match x with
 |
  .it r=>match H.get r 0 with
  |
   some (.row sz ([.mp rm qm]::[.int .i64 since]::[.int .i64 st]::seen) g)=>match H.get rm qm with
   |
    some (.row sz2 ([.int .i64 c,_,_]::es) g2)=>(sz=1∧g=0∧sz2=3∧g2=0∧since≤st∧bornOk since es∧seenOk seen) ∧
    (zxu seen es=[]→k (.tup [.bool false]) H nx) ∧
    ∀e∈zxu seen es,k (.tup [.bool true,e.getD 0 .undef,e.getD 1 .undef]) (H.set r 0 (.row 1 ([.mp rm qm]::[.int .i64 since]::[.int .i64 c]::(seen++[[e.getD 2 .undef]])) 0)) nx
   | _=>False
  | some (.row sz ([.nilmp]::_::_) g)=>(sz=1∧g=0)∧k (.tup [.bool false]) H nx
  | _=>False
 | _=>False
def zb1 (P:Program) (fx:Bool) (op:AOp) (ρ:Nat→AV) (H:AH) (nx:Nat) (k:AV→AH→Nat→Prop):Prop :=
 match op with
 | .call f args=>zab P f (evs ρ args) H nx (fun v H' nx'=>(bif fx then v.wf else True)→k v H' nx')
 | .callq f args=>CallQ P f (evs ρ args) H nx (fun v=>k v H nx)
 |
  .isnil neg p x=>match nilB p (ev ρ x) with
  | some (some b)=>k (.bool (b != neg)) H nx
  | some none=>∀b,k (.bool b) H nx
  | none=>False
 | .mnext x=>zlp (ev ρ x) H nx k
 |
  .callv x args=>match ev ρ x with
  | .fn (.func f) caps=>zfv P f=true∧zab P f (evs ρ args++caps) H nx (fun v H' nx'=>(bif fx then v.wf else True)→k v H' nx')
  | _=>False
 | op=>zk5 fx (aop op ρ H nx) k
def grd (want:Bool):AV→Option Bool
 | .bool b=>some (b == want)
 | .tup []=>some false
 | _=>none
def ExK (P:Program) (fx:Bool) (o:AOper) (K:Kn) (H:AH) (nx:Nat) (k:Kn→AH→Nat→Prop):Prop :=
 match o.guard with
 | none=>zb1 P fx o.op K.get H nx (fun v H' nx'=>k (setO K o.dst v) H' nx')
 |
  some (t,want)=>match grd want (K.get t) with
  | some r=>zeW r (zb1 P fx o.op K.get H nx (fun v H' nx'=>k (setO K o.dst v) H' nx')) (k (setO K o.dst (.tup [])) H nx)
  | none=>False
def aops (P:Program):List AOper→List Nat→QT→Kn→AH→Nat→Prop
 | [],drop,Q,K,H,nx=>Q .normal (K.drop drop) H nx
 | o::os,drop,Q,K,H,nx=>ExK P true o K H nx (aops P os drop Q)
def awpT (P:Program):DTree→List Nat→QT→Kn→AH→Nat→Prop
 | .done,drop,Q,K,H,nx=>Q .normal (K.drop drop) H nx
 | .stop,_,_,_,_,_=>True
 | .step o t,drop,Q,K,H,nx=>ExK P false o K H nx (awpT P t drop Q)
 | .alt o t r,drop,Q,K,H,nx=>ExK P false o K H nx (awpT P t drop Q)∧awpT P r drop Q K H nx
def WfK (K:Kn):Prop:=∀i,(K.get i).wf
def Ent (B:Nat) (K:Kn) (H:AH) (nx:Nat) (K2:Kn) (H2:AH) (nx2:Nat):Prop :=
 B≤nx2∧∀(w:World) (L:Nat→Prop) (ι:Inj) (tmps:Array Value),RelH w L ι H nx→KOk w (Lt L ι H) ι tmps K.get →
  ∃ι2,RelH w L ι2 H2 nx2∧KOk w (Lt L ι2 H2) ι2 tmps K2.get∧(∀b,live ι2 H2 b→live ι H b)∧∀r q g l,r < B→ι r q g=some l→ι2 r q g=some l
def zFD (B:Nat) (W:QT→Kn→AH→Nat→Prop) (Q:QT) (K:Kn) (H:AH) (nx:Nat):Prop :=
 ∃(α:Type) (S:α→Kn × AH) (N:Nat) (inv:α→Prop) (μ:α→Nat),(∃a,inv a∧Ent B K H nx (S a).1 (S a).2 N) ∧
  ∀a,inv a→WfK (S a).1→W (fun e K H nx=>match e with
   | .normal=>∃a',inv a'∧μ a' < μ a∧Ent B K H nx (S a').1 (S a').2 N
   | e=>Q e K H nx) (S a).1 (S a).2 N
def zFG (B:Nat) (W:Kn→AH→Nat→Prop) (K:Kn) (H:AH) (nx:Nat):Prop :=
 WfK K→∃K2 H2 nx2,Ent B K H nx K2 H2 nx2∧W K2 H2 nx2
def zFC (B:Nat) (W1:QT→Kn→AH→Nat→Prop) (W2:Kn→AH→Nat→Prop) (Q:QT) (K:Kn) (H:AH) (nx:Nat):Prop :=
 ∃(α:Type) (S:α→Kn × AH) (N:Nat) (inv:α→Prop),
  W1 (fun e K H nx=>match e with
   | .normal=>∃a',inv a'∧Ent B K H nx (S a').1 (S a').2 N
   | e=>Q e K H nx) K H nx ∧
  ∀a,inv a→WfK (S a).1→W2 (S a).1 (S a).2 N
def zFN (B l:Nat) (W1 W2:QT→Kn→AH→Nat→Prop) (Q:QT) (K:Kn) (H:AH) (nx:Nat):Prop :=
 ∃(α:Type) (S:α→Kn × AH) (N:Nat) (inv:α→Prop) (μ:α→Nat),
  W1 (fun e K H nx=>match e with
   | .goto l'=>l'=l∧∃a',inv a'∧Ent B K H nx (S a').1 (S a').2 N
   | e=>Q e K H nx) K H nx ∧
  ∀a,inv a→WfK (S a).1→W2 (fun e K H nx=>match e with
   | .goto l'=>l'=l∧∃a',inv a'∧μ a' < μ a∧Ent B K H nx (S a').1 (S a').2 N
   | e=>Q e K H nx) (S a).1 (S a).2 N
def noGQ (Q:QT):QT:=fun e K H nx=>match e with
 | .goto _=>False
 | e=>Q e K H nx
def awp (P:Program) (B:Nat):ACode→QT→Kn→AH→Nat→Prop
 | .skip,Q,K,H,nx=>Q .normal K H nx
 | .region ops drop,Q,K,H,nx=>aops P ops drop Q K H nx
 | .draw t drop,Q,K,H,nx=>awpT P t drop Q K H nx
 | .seq a b,Q,K,H,nx=>awp P B a (fun e K H nx=>match e with
   | .normal=>awp P B b Q K H nx
   | e=>Q e K H nx) K H nx
 |
  .cond c a b,Q,K,H,nx=>match ev K.get c with
  | .bool t=>zeW t (awp P B a Q K H nx) (awp P B b Q K H nx)
  | _=>False
 | .block id c,Q,K,H,nx=>awp P B c (fun e K H nx=>match e with
   | .exit id'=>bif Nat.beq id' id then Q .normal K H nx else Q (.exit id') K H nx
   | e=>Q e K H nx) K H nx
 | .loop c,Q,K,H,nx=>zFD B (awp P B c) Q K H nx
 | .exit id,Q,K,H,nx=>Q (.exit id) K H nx
 | .ret,Q,K,H,nx=>Q .ret K H nx
 | .mark _ c,Q,K,H,nx=>zFG B (awp P B c Q) K H nx
 | .scope c,Q,K,H,nx=>awp P B c (noGQ Q) K H nx
 | .label _,Q,K,H,nx=>Q .normal K H nx
 | .goto l,Q,K,H,nx=>Q (.goto l) K H nx
 | .jump l a b,Q,K,H,nx=>zFN B l (awp P B a) (awp P B b) Q K H nx
 | .join a b,Q,K,H,nx=>zFC B (awp P B a) (awp P B b Q) Q K H nx
inductive ARet where
 | tmp (t:Nat)
 | cell (t:Nat) (agg:Bool) (n:Nat)
def cret (P:Program):ResultVar→Option ARet
 | .tmp t=>some (.tmp t)
 |
  .cell a t=>match P.underlying t,P.info? t with
  | some d,some i=>if zcb d then some (.cell a true i.size) else some (.cell a false 1)
  | _,_=>none
def zbk (K:Kn) (H:AH) (nx:Nat):List ARet→Prop
 | []=>True
 | .tmp _::r=>zbk K H nx r
 | .cell t agg n::r=>(zcP agg n (K.get t) H nx).side∧zbk K H nx r
def zaE (K:Kn) (H:AH) (nx:Nat):List ARet→List AV
 | []=>[]
 | .tmp t::r=>K.get t::zaE K H nx r
 | .cell t agg n::r=>(zcP agg n (K.get t) H nx).v::zaE K H nx r
def zh7:List AV→AV
 | [v]=>v
 | l=>.tup l
def retK (rs:List ARet) (Post:AV→AH→Nat→Prop):QT
 | .exit _,_,_,_=>False
 | .goto _,_,_,_=>False
 | _,K,H,nx=>zbk K H nx rs∧Post (zh7 (zaE K H nx rs)) H nx
def zj0:Nat→List AV→Kn
 | _,[]=>[]
 | i,a::r=>(i,a)::zj0 (i+1) r
theorem zqy:∀(asv:List AV) (i j:Nat),(zj0 i asv).get j=if i≤j then asv.getD (j - i) .undef else .undef
 | [],i,j=>by simp[zj0,Kn.get]
 |
  a::asv,i,j=>by
  simp only[zj0,Kn.get]
  by_cases h:i=j
  · subst h;simp
  ·
   rw[zbJ h,cond_false,zqy asv (i+1) j]
   by_cases h2:i+1≤j
   · rw[if_pos h2,if_pos (by omega),show j - i=(j - (i+1))+1 by omega];rfl
   · rw[if_neg h2,if_neg (by omega)]
section
variable {P:Program} {w:World} {L:Nat→Prop} {ι:Inj} {H:AH} {nx:Nat} {M:Nat→Prop}
theorem zF6 (x:XOp) (l:List AV):nx≤(xopR x l H nx).nx:=by
 unfold xopR
 split<;>(try unfold zyp)<;>simp only[zoJ,zk2,seqR,zsF,b2sR,s2bR,znb,minR,eqsR,sl3R,zgY,zkW,zpD,zmA,zdW,zs6,ztd,zkm,zxw,apzR,bad]<;>(repeat' split)<;>simp
theorem zwC {o:Oper} {a:AOp} (h:zAs P o=some a):(∃x xs,a=.xop x xs)∨(∃x,a=.mnext x)∨∃z ps,a=.build z ps:=by
 unfold zAs at h
 cases hop:o.op<;>rw[hop] at h<;>(try (cases h;done))<;>simp only at h<;>(repeat' split at h) <;>
  first
  | (cases h;done)
  | (obtain⟨_,_,rfl⟩:=Wd.1 h;first|exact .inl ⟨_,_,rfl⟩|exact .inr (.inl ⟨_,rfl⟩))
  | (simp only[Wb,Wa,Wc] at h;obtain⟨_,_,rfl⟩:=h;exact .inr (.inr ⟨_,_,rfl⟩))
  | (simp only[Wb,Wa,Wc] at h;obtain⟨_,_,_,_,rfl⟩:=h;exact .inl ⟨_,_,rfl⟩)
  | (simp only[Wb,Wa,Wc] at h;obtain⟨_,_,_,_,_,_,rfl⟩:=h;exact .inl ⟨_,_,rfl⟩)
theorem zyZ {o:Oper} {a:AOp} (h:cyop P o=some a):(∃x xs,a=.xop x xs)∨(∃x,a=.mnext x)∨∃z ps,a=.build z ps:=by
 unfold cyop at h;split at h
 · rename_i a0 h0;cases h;exact zwC h0
 · cases h;exact .inl ⟨_,_,rfl⟩
theorem znA {o:Oper} {a:AOp} (h:cop P o=some a) (hx:(∃x xs,a=.xop x xs)∨(∃x,a=.mnext x)∨(∃z ps,a=.build z ps)→False):cop0 P o=some a:=by
 unfold cop at h;split at h
 · rename_i a0 h0;rw[h0];exact h
 ·
  split at h
  · cases h;exact(hx (.inl ⟨_,_,rfl⟩)).elim
  · exact(hx (zyZ h)).elim
theorem zB2 (o:AOp) (ρ:Nat→AV):nx≤(aop o ρ H nx).nx:=by
 cases o<;>simp only[aop,zqQ,zmZ,zcP,zd9,idxR,zbS,fldR,lenR,zpN,binI,eqB,unR,zmk,zi4,zeb,boxR,zrg,zeR,zmf,zmj,zdH,cutR,zdp,zgH,extR,bad]<;>(try exact zF6 _ _) <;>
  (repeat' split)<;>simp
structure In (nt:Nat) (w0:World) (L:Nat→Prop) (ι0:Inj) (H0:AH) (B:Nat) (w:World) (ι:Inj) (ρ:Nat→AV) (H:AH) (nx:Nat) (a:Act):Prop where
 size:a.tmps.size=nt
 defers:a.defers=[]
 st:Step w0 L ι0 H0 B w ι H nx
 le:B≤nx
 kn:KOk w (Lt L ι H) ι a.tmps ρ
def upd (ρ:Nat→AV):Option Nat→AV→Nat→AV
 | none,_=>ρ
 | some d,v=>fun i=>if i=d then v else ρ i
theorem zl4 (K:Kn) (d:Option Nat) (v:AV):(setO K d v).get=upd K.get d v:=by
 funext i
 cases d with
 | none=>rfl
 | some d=>exact Kn.get_set K d v i
variable {nt:Nat} {w0:World} {ι0:Inj} {H0:AH} {B:Nat} {ρ:Nat→AV} {a:Act}
theorem zFb {tmps:Array Value} {d i:Nat} {v:Value} (hd:d < tmps.size):(tmps.setIfInBounds d v).getD i undef=if i=d then v else tmps.getD i undef:=by
 simp only[WT]
 by_cases h:i=d
 · subst h;simp[hd]
 · rw[if_neg h,Array.getElem?_setIfInBounds_ne (Ne.symm h)]
theorem In.put {d:Option Nat} (hd:zES nt d=true) (hin:In nt w0 L ι0 H0 B w ι ρ H nx a) {w':World} {ι':Inj} {H':AH} {nx':Nat} (st:Step w L ι H nx w' ι' H' nx') (hle:nx≤nx') {v:Value} {av:AV}
  (hv:VR w' (Lt L ι' H') ι' v av):In nt w0 L ι0 H0 B w' ι' (upd ρ d av) H' nx' (a.put d v):=by
 cases d with
 | none=>exact⟨hin.size,hin.defers,hin.st.trans st,Nat.le_trans hin.le hle,fun i=>st.vr (hin.kn i)⟩
 |
  some d =>
  have hd':d < a.tmps.size:=by rw[hin.size];simpa [zES] using hd
  refine⟨by simp[Act.put,hin.size],hin.defers,hin.st.trans st,Nat.le_trans hin.le hle,fun i=>?_⟩;show VR w' (Lt L ι' H') ι' ((a.tmps.setIfInBounds d v).getD i undef) (if i=d then av else ρ i);rw[zFb hd'];split
  · exact hv
  · exact st.vr (hin.kn i)
structure OpRel (P:Program) (nt:Nat) (ops:Array Oper) (o:Oper) (ao:AOper):Prop where
 dst:ao.dst=o.dst
 ok:zES nt o.dst=true
 guard:match o.guard with
  | none=>ao.guard=none
  | some (j,want)=>∃t,(ops[j]?).bind (·.dst)=some t∧ao.guard=some (t,want)
 op:∃op0,cop P o=some op0∧(ao.op=op0∨(∃f xs,op0=.call f xs∧ao.op=.callq f xs)∨(∃x,op0=.box x∧ao.op=.rbox x)∨∃s l z ps,op0=.buildSl s l z ps∧ao.op=.rbuildSl s l z ps)
theorem zBQ {ops:Array Oper} {o:Oper} {ao:AOper} (h:zBm P nt ops o=some ao):OpRel P nt ops o ao:=by
 unfold zBm at h;split at h
 ·
  rename_i hd;split at h
  ·
   rename_i op0 hop;split at h
   · rename_i hg;cases h;exact⟨rfl,hd,by rw[hg],op0,hop,.inl rfl⟩
   ·
    rename_i j want hg;split at h
    · rename_i t ht;cases h;exact⟨rfl,hd,by rw[hg];exact⟨t,ht,rfl⟩,op0,hop,.inl rfl⟩
    · cases h
  · cases h
 · cases h
theorem OpRel.quiet {ops:Array Oper} {o:Oper} {ao:AOper} (h:OpRel P nt ops o ao):OpRel P nt ops o ao.quiet:=by
 unfold AOper.quiet;split
 ·
  rename_i f xs hop;obtain⟨op0,h1,h2⟩:=h.op;refine⟨h.dst,h.ok,h.guard,op0,h1,.inr (.inl ⟨f,xs,?_,rfl⟩)⟩
  rcases h2 with h2 | ⟨f',xs',h3,h4⟩ | ⟨x,h3,h4⟩ | ⟨_,_,_,_,h3,h4⟩
  · rw[←h2,hop]
  · rw[h4] at hop;cases hop
  · rw[h4] at hop;cases hop
  · rw[h4] at hop;cases hop
 · exact h
theorem zAO {ops:Array Oper} {o:Oper} {ao:AOper} (h:OpRel P nt ops o ao) (hk:KOk w M ι a.tmps ρ) :
  match ao.guard with
  | none=>Region.wanted o (yielded ops a.tmps)=true
  | some (t,want)=>∀r,grd want (ρ t)=some r→Region.wanted o (yielded ops a.tmps)=r:=by
 have hg:=h.guard
 cases hog:o.guard with
 |
  none =>
  rw[hog] at hg;rw[hg];simp[Region.wanted,hog]
 |
  some p =>
  obtain⟨j,want⟩:=p;rw[hog] at hg;obtain⟨t,ht,hg⟩:=hg;rw[hg];intro r hr;have hv:=hk t
  cases hb:ρ t<;>rw[hb] at hr<;>try (cases hr;done)
  rotate_left
  ·
   rename_i cs
   cases cs with
   | cons _ _=>cases hr
   |
    nil =>
    cases hr;rw[hb] at hv
    have hval:a.tmps.getD t undef=.tuple #[]:=by
     generalize a.tmps.getD t undef=u at hv
     cases hv with
     |
      tup _ cs _ hs _ =>
      have:cs=#[]:=Wab (by simpa using hs);rw[this]
    have hget:a.tmps[t]? = some (.tuple #[])∨a.tmps[t]? = none:=by
     rw[WT] at hval
     cases hq:a.tmps[t]? with
     | none=>exact .inr rfl
     | some u=>rw[hq] at hval;simp at hval;exact .inl (by rw[hval])
    rcases hget with hget|hget<;>simp only[Region.wanted,hog,yielded,ht,WA,hget]<;>rfl
  rename_i b;cases hr;rw[hb] at hv
  have hval:a.tmps.getD t undef=.bool b:=by generalize a.tmps.getD t undef=u at hv;cases hv;rfl
  have hget:a.tmps[t]? = some (.bool b):=by
   rw[WT] at hval
   cases hq:a.tmps[t]? with
   | none=>rw[hq] at hval;simp[undef] at hval
   | some u=>rw[hq] at hval;simp at hval;rw[hval]
  simp only[Region.wanted,hog,yielded,ht,WA,hget]
  cases b<;>cases want<;>rfl
theorem zvE {f:FuncId} (hf:zfv P f=true) (args:Array Value) (w:World):(callFunc f args).run P w=.ok (.enter f args) w:=by
 unfold zfv at hf;split at hf
 ·
  rename_i fn hfn;simp only[WF,Wac] at hf
  have h1:¬fn.body=none:=by intro hb;rw[hb] at hf;simp at hf
  have h2:¬fn.name="runtime.NumGoroutine":=by intro hb;rw[hb] at hf;simp at hf
  simp[callFunc,Sem.run_bind,hfn,h2,h1]
 · cases hf
theorem zli {o:Oper} {c:Call} {x:Operand} {f:FuncId} {caps:Array Value} (ho:o.op=.call c) (hc:c.callee=.value x) (hx:a.eval x=.func (.func f) #[] caps) (hf:zfv P f=true) :
  (execOp a.eval o).run P w=.ok (.enter f (c.args.map a.eval++caps)) w:=by
 simp[execOp,ho,resolve,hc,hx,Deferred.ofValue,Sem.run_bind,invoke,zvE hf]
theorem zlp.mono {x:AV} {k k':AV→AH→Nat→Prop} (hk:∀v H nx,k v H nx→k' v H nx) (h:zlp x H nx k):zlp x H nx k':=by
 unfold zlp at *;split at h
 ·
  split at h
  ·
   split at h
   · exact⟨h.1,fun e=>hk _ _ _ (h.2.1 e),fun e he=>hk _ _ _ (h.2.2 e he)⟩
   · exact h
  · exact⟨h.1,hk _ _ _ h.2⟩
  · exact h
 · exact h
theorem zbX {fx:Bool} {op:AOp} {k k':AV→AH→Nat→Prop} (hk:∀v H nx,k v H nx→k' v H nx) (h:zb1 P fx op ρ H nx k):zb1 P fx op ρ H nx k':=by
 have hcall:∀f args,zab P f args H nx (fun v H' nx'=>(bif fx then v.wf else True)→k v H' nx')→zab P f args H nx (fun v H' nx'=>(bif fx then v.wf else True)→k' v H' nx'):=by
  intro f args h w L ι vs h1 h2
  exact(h w L ι vs h1 h2).mono fun e w' ⟨v,ι',H',nx',a,h3,h4,h5,h6,h7⟩=>⟨v,ι',H',nx',a,h3,h4,h5,h6,fun hw=>hk _ _ _ (h7 hw)⟩
 unfold zb1 at *
 cases op with
 | call f args=>exact hcall _ _ h
 | callq f args=>exact let ⟨a,h1,h2⟩:=h;⟨a,h1,hk _ _ _ h2⟩
 | mnext x=>exact zlp.mono hk h
 |
  isnil n p x =>
  simp only at h ⊢;split at h
  · exact hk _ _ _ h
  · exact fun b=>hk _ _ _ (h b)
  · exact h
 |
  callv x args =>
  simp only at h ⊢
  cases hx:ev ρ x with
  |
   fn g caps =>
   rw[hx] at h
   cases g<;>first|exact⟨h.1,hcall _ _ h.2⟩|exact h
  | _=>rw[hx] at h;exact h
 | _=>exact⟨h.1,fun hf=>hk _ _ _ (h.2 hf)⟩
def ExF (P:Program) (fx:Bool) (o:AOper) (ρ:Nat→AV) (H:AH) (nx:Nat) (k:(Nat→AV)→AH→Nat→Prop):Prop :=
 match o.guard with
 | none=>zb1 P fx o.op ρ H nx (fun v H' nx'=>k (upd ρ o.dst v) H' nx')
 |
  some (t,want)=>match grd want (ρ t) with
  | some r=>zeW r (zb1 P fx o.op ρ H nx (fun v H' nx'=>k (upd ρ o.dst v) H' nx')) (k (upd ρ o.dst (.tup [])) H nx)
  | none=>False
theorem zsT {fx:Bool} {o:AOper} {K:Kn} {k:Kn→AH→Nat→Prop} {k':(Nat→AV)→AH→Nat→Prop} (hk:∀K H nx,k K H nx→k' K.get H nx) (h:ExK P fx o K H nx k):ExF P fx o K.get H nx k':=by
 have key:zb1 P fx o.op K.get H nx (fun v H' nx'=>k (setO K o.dst v) H' nx')→zb1 P fx o.op K.get H nx (fun v H' nx'=>k' (upd K.get o.dst v) H' nx') :=
  zbX fun v H nx h=>by rw[←zl4];exact hk _ _ _ h
 unfold ExK at h;unfold ExF
 cases hg:o.guard with
 | none=>rw[hg] at h;exact key h
 |
  some p =>
  obtain⟨t,want⟩:=p;rw[hg] at h;simp only at h ⊢
  cases hv:grd want (K.get t) with
  |
   some b =>
   rw[hv] at h;exact⟨fun e=>key (h.1 e),fun e=>by rw[←zl4];exact hk _ _ _ (h.2 e)⟩
  | none=>rw[hv] at h;exact h
theorem zxR {o:Oper} {f:FuncId} {xs:List AOpd} (h:cop P o=some (.call f xs)):∃c,o.op=.call c∧c.callee=.value (.func f)∧c.args.toList.mapM copd=some xs∧zfv P f=true:=by
 replace h:=znA h (by rintro(⟨_,_,e⟩ | ⟨_,e⟩ | ⟨_,_,e⟩)<;>cases e);unfold cop0 at h
 cases hop:o.op with
 |
  call c =>
  rw[hop] at h;simp only at h;split at h
  ·
   rename_i b hb;exfalso;unfold zfK at h
   (repeat' split at h)<;>first | (cases h;done) | (simp at h;done) | (simp[Wa] at h;done)
  ·
   rename_i f' hc;split at h
   ·
    rename_i fn hfn;split at h
    · rename_i hgood;obtain⟨ys,hy,he⟩:=Wd.1 h;cases he;refine⟨c,rfl,hc,hy,?_⟩;simp[zfv,hfn,hgood.1,hgood.2]
    · cases h
   · cases h
  · obtain⟨ys,hy,he⟩:=Wd.1 h;cases he
  · cases h
 |
  _ =>
  rw[hop] at h;simp only at h;exfalso
  (repeat' split at h)<;>first | (cases h;done) | (simp at h;done) | (simp[Wa] at h;done) | (simp only[Wb,Wa] at h;obtain⟨_,_,_,_,_,_,h⟩:=h;split at h<;>simp[Wa] at h;done)
theorem zAM {o:Oper} {x:AOpd} {xs:List AOpd} (h:cop P o=some (.callv x xs)):∃c t,o.op=.call c∧c.callee=.value (.tmp t)∧c.args.toList.mapM copd=some xs∧x=.t t:=by
 replace h:=znA h (by rintro(⟨_,_,e⟩ | ⟨_,e⟩ | ⟨_,_,e⟩)<;>cases e);unfold cop0 at h
 cases hop:o.op with
 |
  call c =>
  rw[hop] at h;simp only at h;split at h
  ·
   rename_i b hb;exfalso;unfold zfK at h
   (repeat' split at h)<;>first | (cases h;done) | (simp at h;done) | (simp[Wa] at h;done)
  ·
   split at h
   ·
    split at h
    · obtain⟨ys,hy,he⟩:=Wd.1 h;cases he
    · cases h
   · cases h
  · rename_i t hc;obtain⟨ys,hy,he⟩:=Wd.1 h;cases he;exact⟨c,t,rfl,hc,hy,rfl⟩
  · cases h
 |
  _ =>
  rw[hop] at h;simp only at h;exfalso
  (repeat' split at h)<;>first | (cases h;done) | (simp at h;done) | (simp[Wa] at h;done) | (simp only[Wb,Wa] at h;obtain⟨_,_,_,_,_,_,h⟩:=h;split at h<;>simp[Wa] at h;done)
theorem zDl {o:Oper} {f:FuncId} {xs:List AOpd} (h:cop P o=some (.callq f xs)):False:=by
 replace h:=znA h (by rintro(⟨_,_,e⟩ | ⟨_,e⟩ | ⟨_,_,e⟩)<;>cases e);unfold cop0 at h
 cases hop:o.op with
 |
  call c =>
  rw[hop] at h;simp only at h;split at h
  ·
   unfold zfK at h
   (repeat' split at h)<;>first | (cases h;done) | (simp at h;done) | (simp[Wa] at h;done)
  · (repeat' split at h)<;>first | (cases h;done) | (simp at h;done)
  · simp at h
  · cases h
 |
  _ =>
  rw[hop] at h;simp only at h
  (repeat' split at h)<;>first | (cases h;done) | (simp at h;done) | (simp[Wa] at h;done) | (simp only[Wb,Wa] at h;obtain⟨_,_,_,_,_,_,h⟩:=h;split at h<;>simp[Wa] at h;done)
theorem zBF {o:Oper} {neg p:Bool} {x:AOpd} (h:cop P o=some (.isnil neg p x)):∃t xo yt,o.op=.binOp (bif neg then .neq else .eql) t xo (.const (bif p then .pointer none else .slice none 0 0)) yt∧copd xo=some x ∧
  ∃d,P.underlying t=some d∧(bif p then ∃e,d=.pointer e else ∃e,d=.slice e):=by
 replace h:=znA h (by rintro(⟨_,_,e⟩ | ⟨_,e⟩ | ⟨_,_,e⟩)<;>cases e);unfold cop0 at h
 cases hop:o.op with
 |
  call c =>
  rw[hop] at h;simp only at h;split at h
  ·
   unfold zfK at h
   (repeat' split at h)<;>first | (cases h;done) | (simp at h;done) | (simp[Wa] at h;done)
  · (repeat' split at h)<;>first | (cases h;done) | (simp at h;done)
  · simp at h
  · cases h
 |
  binOp op t a b yt =>
  rw[hop] at h;simp only at h;split at h
  · simp[Wa] at h
  · (repeat' split at h)<;>first | (cases h;done) | (simp[Wa] at h;done)
  ·
   rename_i e hu;split at h
   ·
    split at h<;>first | (cases h;done)|skip
    all_goals
     obtain⟨x',hx,he⟩:=Wd.1 h;cases he;exact⟨_,_,_,rfl,hx,_,hu,_,rfl⟩
   · cases h
  ·
   rename_i e hu;split at h
   ·
    split at h<;>first | (cases h;done)|skip
    all_goals
     obtain⟨x',hx,he⟩:=Wd.1 h;cases he;exact⟨_,_,_,rfl,hx,_,hu,_,rfl⟩
   · cases h
  · cases h
 |
  _ =>
  rw[hop] at h;simp only at h;exfalso
  (repeat' split at h)<;>first | (cases h;done) | (simp at h;done) | (simp[Wa] at h;done) | (simp only[Wb,Wa] at h;obtain⟨_,_,_,_,_,_,h⟩:=h;split at h<;>simp[Wa] at h;done)
theorem zs7 {t:TypeId} {d:TypeDesc} {p:Bool} (hu:P.underlying t=some d) (hd:bif p then ∃e,d=.pointer e else ∃e,d=.slice e) {v:Value} {a:AV} (hv:VR w M ι v a) {r:Option Bool} (hr:nilB p a=some r) :
  ∃b,(∀c,r=some c→b=c)∧(Op.equal t v (bif p then .pointer none else .slice none 0 0)).run P w=.ok b w∧(∀k n,v≠.int k n)∧(∀s,v≠.string s)∧(∀k n,v≠.float k n)∧(∀k n m,v≠.complex k n m)∧v≠.nilIface∧(∀c,v≠.agg c):=by
 cases p with
 |
  false =>
  obtain⟨e,rfl⟩:=hd
  have key:∀(x:Option Addr) (n c:Nat),(Op.equal t (.slice x n c) (.slice none 0 0)).run P w=.ok x.isNone w:=by
   intro x n c;show (Op.equalIn (Op.maxDepth - 1+1) t _ _).run P w=_
   cases x<;>simp only[Op.equalIn,Sem.run_bind,run_underlying hu,Result.andThen_ok]<;>rfl
  cases hv<;>first | (cases hr;done)|skip
  case sl=>rename_i a sz n cap f V hn hb hc hL hv;exact⟨false,fun c hc=>by subst hc;cases n with|zero=>cases hr|succ n=>cases hr;rfl,key _ _ _,by simp⟩
  case sl0=>exact⟨true,fun c hc=>by subst hc;simp[nilB] at hr,key _ _ _,by simp⟩
  case nilsl=>exact⟨true,fun c hc=>by subst hc;cases hr;rfl,key _ _ _,by simp⟩
  case cut=>rename_i a;exact⟨_,fun c hc=>by subst hc;simp[nilB] at hr,key a _ _,by simp⟩
  case own =>
   rename_i r q g off n a c l hm hn hc ha h;refine⟨_,fun c' hc'=>?_,key a _ _,by simp⟩;subst hc'
   cases n with
   | zero=>simp[nilB] at hr
   |
    succ n =>
    cases hr;rw[ha (by omega)];rfl
 |
  true =>
  obtain⟨e,rfl⟩:=hd
  have key:∀(x:Option Addr),(Op.equal t (.pointer x) (.pointer none)).run P w=.ok x.isNone w:=by
   intro x;show (Op.equalIn (Op.maxDepth - 1+1) t _ _).run P w=_
   cases x<;>simp only[Op.equalIn,Sem.run_bind,run_underlying hu,Result.andThen_ok]<;>rfl
  cases hv<;>first | (cases hr;done)|skip
  case nilp=>exact⟨true,fun c hc=>by subst hc;cases hr;rfl,key _,by simp⟩
  case ptr=>exact⟨false,fun c hc=>by subst hc;cases hr;rfl,key _,by simp⟩
  case iptr=>exact⟨false,fun c hc=>by subst hc;cases hr;rfl,key _,by simp⟩
theorem zGZ {o:Oper} {x:AOpd} (h:cop P o=some (.box x)):∃e xo,o.op=.box e xo∧copd xo=some x:=by
 replace h:=znA h (by rintro(⟨_,_,e⟩ | ⟨_,e⟩ | ⟨_,_,e⟩)<;>cases e);unfold cop0 at h
 cases hop:o.op with
 |
  box e xo =>
  rw[hop] at h;obtain⟨x',hx,he⟩:=Wd.1 h;cases he;exact⟨e,xo,rfl,hx⟩
 |
  call c =>
  rw[hop] at h;exfalso;simp only[zfK] at h
  (repeat' split at h)<;>first | (cases h;done) | (simp at h;done) | (simp[Wa] at h;done)
 |
  _ =>
  rw[hop] at h;exfalso;simp only at h
  (repeat' split at h)<;>first | (cases h;done) | (simp at h;done) | (simp[Wa] at h;done) | (simp only[Wb,Wa] at h;obtain⟨_,_,_,_,_,_,h⟩:=h;split at h<;>simp[Wa] at h;done)
theorem zBA {xv:Value} {x:AV} {ty:TypeId} {k:AV→AH→Nat→Prop} (rel:RelH w L ι H nx) (hx:VR w (Lt L ι H) ι xv x) (h:zlp x H nx k) :
  ∃v w' ι' a H',(Instr.next xv false ty).run P w=.ok v w'∧Step w L ι H nx w' ι' H' nx∧VR w' (Lt L ι' H') ι' v a∧k a H' nx:=by
 have tupF:∀(w:World) (M:Nat→Prop) (ι:Inj),VR w M ι (.tuple #[.bool false]) (.tup [.bool false]):=fun w M ι=>.tup _ _ _ rfl (fun i v a h1 h2=>by
  match i with
  | 0=>cases h1;cases h2;exact .bool _ _
  | i+1=>cases h2)
 cases hx with
 |
  it _ r l hl hcap =>
  unfold zlp at h;simp only at h;split at h
  ·
   rename_i sz rm qm since st seen g hg;split at h
   ·
    rename_i sz2 c u u' es g2 hg2;obtain⟨⟨rfl,rfl,rfl,rfl,hst,hborn,hseen⟩,hnone,hsome⟩:=h;obtain⟨l',hl',okr⟩:=rel.row _ _ _ _ _ hg;rw[hl] at hl';cases hl';have hcap:=okr.noBox (by simp) hcap;obtain⟨m,sn,sv,stp,hb,hsz,hh⟩:=okr.iter hcap;obtain⟨v0,e0,r0⟩:=hh 0 (.mp rm qm) rfl;cases e0
    cases r0 with
    |
     mp _ _ _ lm hlm hcm =>
     obtain⟨v1,e1,r1⟩:=hh 1 (.int .i64 since) rfl;cases e1
     have hsi:since=(sn:Int):=by cases r1;rfl
     subst hsi;obtain⟨v2,e2,r2⟩:=hh 2 (.int .i64 st) rfl;cases e2
     have hsi:st=(stp:Int):=by cases r2;rfl
     subst hsi;obtain⟨l'',hl'',okm⟩:=rel.row _ _ _ _ _ hg2;rw[hlm] at hl'';cases hl'';obtain⟨ms,clock,hbm,hszm,hhm⟩:=okm.map hcm
     have hms:ms.size=es.length:=by simpa using hszm
     have hc:c=(clock:Int):=by obtain⟨v3,e3,r3⟩:=hhm 0 0 _ _ rfl rfl;cases e3;cases r3;rfl
     subst hc
     have hcr:InR .i64 (clock:Int):=by obtain⟨v3,e3,r3⟩:=hhm 0 0 _ _ rfl rfl;cases e3;cases r3;assumption
     have hrow:∀(i:Nat) (e:MapEntry) (cs:List AV),ms[i]? = some e→es[i]? = some cs→∃(kk vv:AV) (b:Nat),cs=[kk,vv,.int .i64 (b:Int)]∧e.born=b∧VR w (Lt L ι H) ι e.key kk∧VR w (Lt L ι H) ι e.val vv∧InR .i64 (b:Int):=by
      intro i e cs he hcs;have hwid:=okm.wide (i+1) cs (by simpa using hcs)
      obtain⟨kk,vv,bb,rfl⟩:∃a b c,cs=[a,b,c]:=by
       match cs,hwid with
       | [a,b,c],_=>exact⟨a,b,c,rfl⟩
      obtain⟨b,hb1,_⟩:=hborn _ (Wad hcs);simp only[Wt,Wu] at hb1;subst hb1;obtain⟨f1,f2,f3⟩:=zeE (clock:=clock) he;obtain⟨w1,g1,q1⟩:=hhm (i+1) 0 _ kk (by simpa using hcs) rfl;obtain⟨w2,g2,q2⟩:=hhm (i+1) 1 _ vv (by simpa using hcs) rfl;obtain⟨w3,g3,q3⟩:=hhm (i+1) 2 _ _ (by simpa using hcs) rfl;rw[f1] at g1;cases g1;rw[f2] at g2;cases g2;rw[f3] at g3;cases g3
      cases q3 with
      | int _ _ _ hr=>exact⟨kk,vv,e.born,rfl,rfl,q1,q2,hr⟩
     have hsv:∀(i:Nat) (b:Nat),sv[i]? = some b→seen[i]? = some [.int .i64 (b:Int)]:=by
      intro i b hi
      have hlt:i < seen.length:=by have:=(Wl.1 hi).1;simp at hsz;omega
      obtain⟨b',hb'⟩:=hseen _ (WU hlt);obtain⟨v3,e3,r3⟩:=hh (i+3) (.int .i64 b') (by simp[Wi hlt,hb']);rw[znh hi] at e3;cases e3;rw[Wi hlt,hb'];cases r3;rfl
     have hin:∀b:Nat,zun (.int .i64 (b:Int)) seen=sv.contains b:=by
      intro b;rw[Wv,Array.contains_iff_mem];unfold zun;rw[List.any_eq_true];constructor
      ·
       rintro⟨s,hs,hd⟩;obtain⟨i,hi,hi2⟩:=WV hs
       have hlt:i < sv.size:=by simp at hsz;omega
       have h1:=hsv i _ (Wh hlt);rw[Wi hi,hi2] at h1;cases h1;simp only[decide_eq_true_eq] at hd
       have:sv[i]=b:=by omega
       rw[←this];exact Wae hlt
      · intro hm;obtain⟨i,hi,hi2⟩:=Waf hm;have h1:=hsv i _ (Wh hi);rw[hi2] at h1;exact⟨_,Wad h1,by simp⟩
     have hold:∀x∈ms.toList,x.born < sn:=by
      intro x hx;obtain⟨i,hi,hi2⟩:=WV hx
      have hi':i < es.length:=by simp at hi;omega
      have hxi:ms[i]? = some x:=by rw[←Wk,Wi hi,hi2]
      obtain⟨kk,vv,b,hcs,hb1,_⟩:=hrow i x _ hxi (Wi hi');obtain⟨b',hb2,hb3⟩:=hborn _ (WU hi');rw[hcs] at hb2;simp only[Wt,Wu] at hb2;cases hb2;omega
     rcases Go.run_next_at (P:=P) w ty l.block lm.block sn stp sv ms clock hb hbm hold (by omega) with ⟨hz,hrun⟩ | ⟨e,hmem,w1,hw1,hrun⟩
     ·
      refine⟨_,w,ι,.tup [.bool false],H,?_,.refl rel,tupF _ _ _,hnone ?_⟩
      · exact hrun
      ·
       rw[List.eq_nil_iff_forall_not_mem];intro cs hcs;unfold zxu at hcs;obtain⟨h1,h2⟩:=List.mem_filter.1 hcs;obtain⟨i,hi,hi2⟩:=WV h1
       have hlt:i < ms.size:=by omega
       obtain⟨kk,vv,b,hc2,hb1,_⟩:=hrow i _ _ (Wh hlt) (by rw[Wi hi,hi2]);subst hc2;simp only[Wt,Wu,hin,Wac] at h2
       have hm:ms[i]∈leftOf ms sv:=by unfold leftOf;rw[Wag];exact⟨Wae hlt,by rw[hb1,h2];rfl⟩
       have:=Array.size_pos_of_mem hm;omega
     ·
      have hm0:e∈leftOf ms sv:=by simpa using hmem
      unfold leftOf at hm0;rw[Wag] at hm0;obtain⟨hm1,hm2⟩:=hm0;obtain⟨i,hi,hi2⟩:=Waf hm1
      have hi':i < es.length:=by omega
      have hei:es[i]? = some es[i]:=Wi hi';obtain⟨kk,vv,b,hc2,hb1,hk1,hv1,hbr⟩:=hrow i e _ (by rw[Wh hi,hi2]) hei
      have hleft:es[i]∈zxu seen es:=by unfold zxu;rw[List.mem_filter];refine⟨WU hi',?_⟩;rw[hc2];simp only[Wt,Wu,hin];rw[←hb1];exact hm2
      have hk:=hsome _ hleft;rw[hc2] at hk;simp only[Wt,Wu] at hk
      have st:=Step.itset (seen':=sv.push e.born) (st':=clock) (els':=[.mp rm qm]::[.int .i64 (sn:Int)]::[.int .i64 (clock:Int)]::(seen++[[.int .i64 (b:Int)]])) rel hw1 hg hl hcap okr hb (by simp at hsz ⊢;omega) (fun i c hi=>by
       match i with
       | 0=>cases hi;rfl
       | 1=>cases hi;rfl
       | 2=>cases hi;rfl
       |
        i+3 =>
        simp only[Wj] at hi
        by_cases hlt:i < seen.length
        · rw[WB hlt] at hi;exact okr.wide (i+3) c (by simpa using hi)
        ·
         rw[WC (by omega)] at hi
         cases hi3:i - seen.length with
         | zero=>rw[hi3] at hi;cases hi;rfl
         | succ q=>rw[hi3] at hi;cases hi) (fun i a hi=>by
       match i with
       | 0=>cases hi;exact⟨_,rfl,.mp _ _ _ _ hlm hcm⟩
       | 1=>cases hi;exact⟨_,rfl,r1⟩
       | 2=>cases hi;exact⟨_,rfl,.int _ _ _ hcr⟩
       |
        i+3 =>
        simp only[Wj] at hi
        have hsl:sv.size=seen.length:=by simp at hsz;omega
        by_cases hlt:i < seen.length
        · rw[WB hlt] at hi;obtain⟨v3,e3,r3⟩:=hh (i+3) a (by simpa using hi);refine⟨v3,?_,r3⟩;rw[←e3];exact zww (by rw[W5,if_neg (show i≠sv.size by omega)])
        ·
         rw[WC (by omega)] at hi
         cases hi3:i - seen.length with
         | succ q=>rw[hi3] at hi;cases hi
         |
          zero =>
          rw[hi3] at hi;cases hi
          have hlt2:i=sv.size:=by omega
          subst hlt2;refine⟨.int .i64 (e.born:Int),?_,?_⟩
          · exact znh (by simp)
          ·
           rw[hb1]
           exact .int _ _ _ hbr)
      refine⟨_,_,_,_,_,hrun,st,?_,hk⟩;refine .tup _ _ _ rfl (fun i v a h1 h2=>?_)
      match i with
      | 0=>cases h1;cases h2;exact .bool _ _
      | 1=>cases h1;cases h2;exact st.vr hk1
      | 2=>cases h1;cases h2;exact st.vr hv1
      | i+3=>cases h2
   · exact h.elim
  · rename_i sz seen g hg;obtain⟨⟨rfl,rfl⟩,hk⟩:=h;obtain⟨l',hl',okr⟩:=rel.row _ _ _ _ _ hg;rw[hl] at hl';cases hl';obtain⟨m,sn,sv,stp,hb,hsz,hh⟩:=okr.iter (okr.noBox (by simp) hcap);obtain⟨v0,e0,r0⟩:=hh 0 .nilmp rfl;cases e0;cases r0;refine⟨_,w,ι,.tup [.bool false],H,?_,.refl rel,tupF _ _ _,hk⟩;simp[Instr.next,getObj,Sem.run_bind,Sem.run,hb,Result.andThen]
  · exact h.elim
 | _=>exact h.elim
theorem OpRel.ro {ops:Array Oper} {o:Oper} {ao:AOper} {l:List Nat} (h:OpRel P nt ops o ao):OpRel P nt ops o (ao.ro l):=by
 unfold AOper.ro;split
 ·
  rename_i x d hop hd
  cases hm:memN l d with
  | false=>exact h
  |
   true =>
   obtain⟨op0,h1,h2⟩:=h.op;refine⟨h.dst,h.ok,h.guard,op0,h1,.inr (.inr (.inl ⟨x,?_,rfl⟩))⟩
   rcases h2 with h2 | ⟨f',xs',h3,h4⟩ | ⟨x',h3,h4⟩ | ⟨_,_,_,_,h3,h4⟩
   · rw[←h2,hop]
   · rw[h4] at hop;cases hop
   · rw[h4] at hop;cases hop
   · rw[h4] at hop;cases hop
 ·
  rename_i sz len z ps d hop hd
  cases hm:memN l d with
  | false=>exact h
  |
   true =>
   obtain⟨op0,h1,h2⟩:=h.op;refine⟨h.dst,h.ok,h.guard,op0,h1,.inr (.inr (.inr ⟨sz,len,z,ps,?_,rfl⟩))⟩
   rcases h2 with h2 | ⟨f',xs',h3,h4⟩ | ⟨x',h3,h4⟩ | ⟨_,_,_,_,h3,h4⟩
   · rw[←h2,hop]
   · rw[h4] at hop;cases hop
   · rw[h4] at hop;cases hop
   · rw[h4] at hop;cases hop
 · exact h
theorem zwV {o:Oper} {sz len:Nat} {z:List AV} {ps:List (Nat × AOpd)} (h:cop P o=some (.buildSl sz len z ps)) :
  ∃t parts e i,o.op=.buildSlice t len parts∧P.underlying t=some (.slice e)∧P.info? e=some i∧zgp P e=some z∧len * i.size≤16777216∧0 < i.size∧sz=i.size∧(parts.toList.mapM fun p=>do some (p.1,(←copd p.2)))=some ps:=by
 replace h:=znA h (by rintro(⟨_,_,e⟩ | ⟨_,e⟩ | ⟨_,_,e⟩)<;>cases e);unfold cop0 at h
 cases hop:o.op with
 |
  buildSlice t l parts =>
  rw[hop] at h;simp only at h;split at h
  ·
   rename_i e hu;split at h
   ·
    rename_i i z' hi hz;split at h
    · rename_i hc;simp only[Wb,Wa,Wc] at h;obtain⟨ps',hps,he⟩:=h;cases he;exact⟨t,parts,e,i,rfl,hu,hi,hz,hc.1,hc.2,rfl,by simpa using hps⟩
    · cases h
   · cases h
  · cases h
 |
  call c =>
  rw[hop] at h;exfalso;simp only[zfK] at h
  (repeat' split at h)<;>first | (cases h;done) | (simp at h;done) | (simp[Wa] at h;done)
 |
  _ =>
  rw[hop] at h;exfalso;simp only at h
  (repeat' split at h)<;>first | (cases h;done) | (simp at h;done) | (simp[Wa] at h;done) | (simp only[Wb,Wa] at h;obtain⟨_,_,_,_,_,_,h⟩:=h;split at h<;>simp[Wa] at h;done)
theorem zCe {o:Oper} {x:AOpd} (h:cop P o=some (.mnext x)):∃xo,o.op=.next xo false∧copd xo=some x:=by
 unfold cop at h;split at h
 ·
  rename_i a0 h0;cases h;exfalso;unfold cop0 at h0
  cases hop:o.op with
  |
   call c =>
   rw[hop] at h0;simp only[zfK] at h0
   (repeat' split at h0)<;>first | (cases h0;done) | (simp at h0;done) | (simp[Wa] at h0;done)
  |
   _ =>
   rw[hop] at h0;simp only at h0
   (repeat' split at h0)<;>first | (cases h0;done) | (simp at h0;done) | (simp[Wa] at h0;done) | (simp only[Wb,Wa] at h0;obtain⟨_,_,_,_,_,_,h0⟩:=h0;split at h0<;>simp[Wa] at h0;done)
 ·
  split at h
  · cases h
  ·
   unfold cyop at h;split at h
   rotate_left
   · cases h
   rename_i a1 h1;cases h;replace h:=h1;unfold zAs at h
   cases hop:o.op with
   |
    next y s =>
    rw[hop] at h;simp only at h;split at h
    · rename_i hs;subst hs;obtain⟨x',hx,he⟩:=Wd.1 h;cases he;exact⟨y,rfl,hx⟩
    · cases h
   |
    _ =>
    rw[hop] at h;exfalso;simp only at h
    (repeat' split at h)<;>first | (cases h;done) | (simp at h;done) | (simp[Wa] at h;done)
theorem zmS {fx:Bool} {ops:Array Oper} {o:Oper} {ao:AOper} (hr:OpRel P nt ops o ao) (hin:In nt w0 L ι0 H0 B w ι ρ H nx a) {k:(Nat→AV)→AH→Nat→Prop} (hex:ExF P fx ao ρ H nx k)
  {Kc:Act→World→Prop} {Qc:Exit→Act→World→Prop} (hk:∀w' ι' ρ' H' nx' a',In nt w0 L ι0 H0 B w' ι' ρ' H' nx' a'→k ρ' H' nx'→Kc a' w') :
  if Region.wanted o (yielded ops a.tmps) then o.wp P a w Kc Qc else Kc (a.put o.dst undef) w:=by
 have hrel:=hin.st.rel
 have skip:k (upd ρ ao.dst (.tup [])) H nx→Kc (a.put o.dst undef) w:=fun h =>
  hk _ _ _ _ _ _ (hin.put hr.ok (.refl hrel) (We _) (VR.tup _ #[] [] rfl (fun i v a h=>by simp at h))) (by rw[←hr.dst];exact h)
 have callIt:∀(c:Call) (x:Operand) (f:FuncId) (capsV:Array Value) (args caps:List AV),o.op=.call c→c.callee=.value x→a.eval x=.func (.func f) #[] capsV→zfv P f=true →
   VRs w (Lt L ι H) ι (c.args.toList.map a.eval) args→VRs w (Lt L ι H) ι capsV.toList caps→zab P f (args++caps) H nx (fun v H' nx'=>(bif fx then v.wf else True)→k (upd ρ ao.dst v) H' nx')→o.wp P a w Kc Qc:=by
  intro c x f capsV args caps ho hc hx hf hargs hcaps hcall;unfold Oper.wp;rw[zli ho hc hx hf];simp only[Oper.upon]
  refine(hcall w L ι _ hrel (by simpa using hargs.append hcaps)).mono fun e w' ⟨v,ι',H',nx',av,he,h1,h2,h3,h4⟩=>?_
  subst he;refine hk _ _ _ _ _ _ (hin.put hr.ok h1 h2 h3) ?_;rw[←hr.dst];refine h4 ?_;cases fx
  · trivial
  · exact h3.wf
 have callFix:∀(c:Call) (f:FuncId) (args:List AV) (av:AV),o.op=.call c→c.callee=.value (.func f)→zfv P f=true →
   VRs w (Lt L ι H) ι (c.args.toList.map a.eval) args→zc0 P f args H nx av→k (upd ρ ao.dst av) H nx→o.wp P a w Kc Qc:=by
  intro c f args av ho hc hf hargs hcall hkk;unfold Oper.wp;rw[zli (caps:=#[]) ho hc rfl hf];simp only[Oper.upon]
  refine(hcall w L ι _ hrel (by simpa using hargs)).mono fun e w' ⟨v,he,h1,h3⟩=>?_
  subst he;exact hk _ _ _ _ _ _ (hin.put hr.ok h1 (We _) h3) (by rw[←hr.dst];exact hkk)
 have body:zb1 P fx ao.op ρ H nx (fun v H' nx'=>k (upd ρ ao.dst v) H' nx')→o.wp P a w Kc Qc:=by
  intro hbody;obtain⟨op0,hop,hcase⟩:=hr.op
  rcases hcase with hcase | ⟨f,xs,rfl,h1⟩ | ⟨x,rfl,h1⟩ | ⟨sz,len,z,ps,rfl,h1⟩
  ·
   rw[←hcase] at hop
   have plain:ao.op.isCall=false→zk5 fx (aop ao.op ρ H nx) (fun v H' nx'=>k (upd ρ ao.dst v) H' nx')→o.wp P a w Kc Qc:=by
    intro hcall ⟨hs,hf⟩;obtain⟨n,v,w',ι',hrun,hn,hst,hv,hfact,_⟩:=cop_ok hop hcall hrel hin.kn hs;unfold Oper.wp;rw[hrun];have hfin:=hk _ _ _ _ _ _ (hin.put hr.ok hst (zB2 _ _) hv) (by rw[←hr.dst];exact hf (by cases fx;trivial;exact hfact))
    rcases hn with rfl | ⟨rfl,rfl⟩
    · exact hfin
    · exact hfin
   unfold zb1 at hbody
   cases hk0:ao.op with
   |
    call f xs =>
    rw[hk0] at hbody hop;obtain⟨c,h1,h2,h3,h4⟩:=zxR hop;exact callIt c _ f #[] (evs ρ xs) [] h1 h2 rfl h4 (zmy hin.kn h3) .nil (by simpa using hbody)
   | callq f xs=>rw[hk0] at hop;exact(zDl hop).elim
   |
    mnext x =>
    rw[hk0] at hbody hop;obtain⟨xo,h1,h2⟩:=zCe hop;obtain⟨v,w',ι',av,H',hrun,hst,hv,hkk⟩:=zBA (P:=P) (ty:=o.type) hrel (zz hin.kn h2) hbody;unfold Oper.wp
    have hrun':(execOp a.eval o).run P w=.ok (.value v) w':=by unfold execOp;rw[h1];exact zAy hrun
    rw[hrun'];exact hk _ _ _ _ _ _ (hin.put hr.ok hst (We _) hv) (by rw[←hr.dst];exact hkk)
   |
    isnil neg p x =>
    rw[hk0] at hbody hop;obtain⟨t,xo,yt,h1,h2,d,h3,h4⟩:=zBF hop;simp only at hbody
    cases hn:nilB p (ev ρ x) with
    | none=>rw[hn] at hbody;exact hbody.elim
    |
     some r =>
     obtain⟨b,h5,h6,h7⟩:=zs7 h3 h4 (zz hin.kn h2) hn
     have hrun:(execOp a.eval o).run P w=.ok (.value (.bool (b != neg))) w:=by
      simp only[execOp,h1];have hy:a.eval (.const (bif p then .pointer none else .slice none 0 0))=(bif p then .pointer none else .slice none 0 0):=rfl;rw[hy];generalize a.eval xo=v at h6 h7;obtain⟨i1,i2,i3,i4,i5,i6⟩:=h7
      cases neg<;>cases p<;>cases v<;>first
       | exact absurd rfl (i1 _ _)
       | exact absurd rfl (i2 _)
       | exact absurd rfl (i3 _ _)
       | exact absurd rfl (i4 _ _ _)
       | exact absurd rfl i5
       | exact absurd rfl (i6 _)
       | (
         simp only[cond_true,cond_false] at h6
         simp[Sem.run_bind,eqGuard,binOp,h6])
     unfold Oper.wp;rw[hrun];refine hk _ _ _ _ _ _ (hin.put hr.ok (.refl hrel) (We _) (.bool _ (b != neg))) ?_;rw[←hr.dst];rw[hn] at hbody
     cases r with
     | none=>exact hbody (b != neg)
     | some c=>rw[h5 c rfl];exact hbody
   |
    callv x xs =>
    rw[hk0] at hbody hop;obtain⟨c,t,h1,h2,h3,rfl⟩:=zAM hop;simp only[ev] at hbody
    cases hx:ρ t with
    |
     fn g caps =>
     rw[hx] at hbody
     cases g with
     |
      func f =>
      have hv:=hin.kn t;rw[hx] at hv;generalize hu:a.tmps.getD t undef=u at hv
      cases hv with
      |
       fn _ _ cs _ hs hvv =>
       exact callIt c _ f cs (evs ρ xs) caps h1 h2 hu hbody.1 (zmy hin.kn h3) (.ofGet _ _ (by simpa using hs) (fun i v b h5 h6=>hvv i v b (by simpa using h5) h6)) hbody.2
     | _=>exact hbody.elim
    | _=>rw[hx] at hbody;exact hbody.elim
   | _=>rw[hk0] at hbody;exact plain (by rw[hk0];rfl) (by rw[hk0];exact hbody)
  · unfold zb1 at hbody;rw[h1] at hbody;obtain⟨c,h2,h3,h4,h5⟩:=zxR hop;obtain⟨av,h6,h7⟩:=hbody;exact callFix c f _ av h2 h3 h5 (zmy hin.kn h4) h6 h7
  ·
   unfold zb1 at hbody;rw[h1] at hbody;obtain⟨hs,hf⟩:=hbody;obtain⟨e,xo,h2,h3⟩:=zGZ hop;obtain⟨v,w',ι',hrun,hst,hv,hfact⟩:=zE9 (P:=P) (e:=e) hrel (zz hin.kn h3) hs;unfold Oper.wp
   have hrun':(execOp a.eval o).run P w=.ok (.value v) w':=by unfold execOp;rw[h2];exact zAy hrun
   rw[hrun'];exact hk _ _ _ _ _ _ (hin.put hr.ok hst (zB2 (.rbox x) _) hv) (by rw[←hr.dst];exact hf (by cases fx<;>trivial))
  ·
   unfold zb1 at hbody;rw[h1] at hbody;obtain⟨hs,hf⟩:=hbody;obtain⟨t,parts,e,i,h2,hu,hi,hz,hb,hpos,rfl,hps⟩:=zwV hop;have hel:=zf0 hin.kn (by simpa using hps)
   have hmap:(parts.map fun(p:Nat × Operand)=>(p.1,a.eval p.2)).toList=parts.toList.map fun p=>(p.1,a.eval p.2):=by simp
   obtain⟨v,w',ι',hrun,hst,hv,hfact⟩:=zus (P:=P) (parts:=parts.map fun(p:Nat × Operand)=>(p.1,a.eval p.2)) hrel hu hi hz hb hpos (by rw[hmap];exact hel) hs;unfold Oper.wp
   have hrun':(execOp a.eval o).run P w=.ok (.value v) w':=by unfold execOp;rw[h2];exact zAy hrun
   rw[hrun'];exact hk _ _ _ _ _ _ (hin.put hr.ok hst (zB2 (.rbuildSl i.size len z ps) _) hv) (by rw[←hr.dst];exact hf (by cases fx<;>trivial))
 have hw:=zAO hr hin.kn;unfold ExF at hex
 cases hg:ao.guard with
 |
  none =>
  rw[hg] at hex hw;rw[if_pos hw];exact body hex
 |
  some p =>
  obtain⟨t,want⟩:=p;rw[hg] at hex hw;simp only at hex hw
  cases hv:grd want (ρ t) with
  |
   some r =>
   rw[hv] at hex;simp only at hex;rw[hw r hv]
   cases r with
   | true=>rw[if_pos rfl];exact body (hex.1 rfl)
   | false=>rw[if_neg (by simp)];exact skip (hex.2 rfl)
  | none=>rw[hv] at hex;exact hex.elim
end
end Go.Ab
