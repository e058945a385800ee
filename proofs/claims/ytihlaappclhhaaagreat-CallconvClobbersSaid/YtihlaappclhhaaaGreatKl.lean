/-
  Part 12 of the proof: how the calls of this program run, over values instead of memory, and what each function computes.
-/
import Derived.Shelf.SortM.Plain
import Derived.Test.YtihlaappclhhaaaGreatKk
set_option maxRecDepth 100000
set_option cbv.warning false
set_option cbv.maxSteps 100000000
set_option linter.unusedVariables false
set_option linter.unusedSimpArgs false
set_option linter.unnecessarySimpa false
set_option linter.unusedSectionVars false
open Nat renaming le_refl→Wa,lt_or_ge→Wj,div_mul_le_self→WA,le_of_ble_eq_true→WB,eq_zero_or_pos→WD
open Or renaming inl→Wc,inr→Wd
open List renaming getElem?_eq_getElem→We,length_map→Wf,getD_eq_getElem?_getD→Wg,mem_singleton→Wh,mem_cons→Wi,map_append→Wk,length_cons→Wl,pairwise_cons→Wm,map_cons→Wn,getElem?_map→Wo,length_append→Wp,length_singleton→Wq,nodup_cons→Ws,length_take→Wu,append_nil→Wv,replicate→Ww,map_nil→Wx,nodup_append→Wy,mem_append→Wz,filter_append→WG,take_add_one→WH,take_length→WI
open Int renaming le_trans→Wr,tdiv_eq_ediv_of_nonneg→Wt,natCast_nonneg→WC
open Array renaming getElem?_modify→WE
open Option renaming map_eq_some_iff→WF
namespace Go.Ab
open Go.RowKit Go.Proofs Go.Maps Go.Sort Go.Shelf
def insI(x:Int):List Int→List Int
 | []=>[x]
 | y::r=>bif decide (x≤y) then x::y::r else y::insI x r
def zeF:List Int→List Int
 | []=>[]
 | x::r=>insI x (zeF r)
theorem zp8(x:Int):∀l:List Int,(insI x l).Perm (x::l)
 | []=>.refl _
 |
  y::r=>by
  rw[insI];cases decide (x≤y)
  · exact((zp8 x r).cons y).trans (.swap x y r)
  · exact .refl _
theorem zcM:∀l:List Int,(zeF l).Perm l
 | []=>.refl _
 | x::r=>(zp8 x _).trans ((zcM r).cons x)
theorem zqf(x:Int):∀l:List Int,l.Pairwise (·≤·)→(insI x l).Pairwise (·≤·)
 | [],_=>by simp[insI]
 |
  y::r,h=>by
  rw[insI];rw[Wm] at h
  cases hd:decide (x≤y) with
  |
   true =>
   have hxy:x≤y:=of_decide_eq_true hd;refine Wm.2 ⟨fun z hz=>?_,Wm.2 h⟩
   rcases Wi.1 hz with rfl|hz
   · exact hxy
   · exact Wr hxy (h.1 z hz)
  |
   false =>
   have hxy:¬x≤y:=of_decide_eq_false hd;refine Wm.2 ⟨fun z hz=>?_,zqf x r h.2⟩
   rcases Wi.1 ((zp8 x r).mem_iff.1 hz) with rfl|hz
   · omega
   · exact h.1 z hz
theorem zfD:∀l:List Int,(zeF l).Pairwise (·≤·)
 | []=>.nil
 | x::r=>zqf x _ (zfD r)
theorem ztG{l m:List Int}(h:l.Perm m)(hl:l.Pairwise (·≤·))(hm:m.Pairwise (·≤·)):l=m :=
 List.Perm.eq_of_pairwise (fun _ _ _ _ h1 h2=>Int.le_antisymm h1 h2) hl hm h
theorem zma{l m:List Int}(h:l.Perm m):l.mergeSort (fun x y=>decide (x≤y))=zeF m:=by
 refine ztG ((List.mergeSort_perm _ _).trans (h.trans (zcM m).symm)) ?_ (zfD m);have:=List.pairwise_mergeSort (le:=fun x y:Int=>decide (x≤y)) (fun a b c h1 h2=>by simp only[decide_eq_true_eq] at *;exact Wr h1 h2) (fun a b=>by simp only[Bool.or_eq_true,decide_eq_true_eq];exact Int.le_total a b) l
 exact this.imp fun h=>of_decide_eq_true h
def entI:List (List AV)→Option (List (Int × Int))
 | []=>some []
 |
  c::r=>match c with
  |
   [.int .i64 k,_,.int .i64 b]=>match entI r with
   | some l=>some ((k,b)::l)
   | none=>none
  | _=>none
section
variable {w:World} {L:Nat→Prop} {ι:Inj} {H:AH} {nx:Nat}
theorem zlS{α β:Type}{f:α→β}:∀{l:List α},(l.map f).Nodup→l.Nodup
 | [],_=>.nil
 |
  a::l,h=>by
  rw[Wn,Ws] at h;exact Ws.2 ⟨fun hm=>h.1 (List.mem_map_of_mem hm),zlS h.2⟩
end
end Go.Ab
namespace Go.Ab
open Go.RowKit Go.Proofs
def cW(n:Int):List AV:=[.int .u32 n]
def rW(d:Array Int):List (List AV):=d.toList.map cW
theorem zhv{d:Array Int}:(rW d).length=d.size:=by simp[rW]
theorem za4{d:Array Int}{i:Nat}(h:i < d.size):(rW d).getD i []=[.int .u32 d[i]!]:=by unfold rW;rw[Wg,Wo,Array.getElem?_toList,Array.getElem?_eq_getElem h,getElem!_pos d i h];rfl
theorem zD3{d:Array Int}{i:Nat}{x:Int}:(rW d).set i [.int .u32 x]=rW (d.setIfInBounds i x):=by unfold rW;rw[Array.toList_setIfInBounds,List.map_set];rfl
theorem zgG{d:Array Int}{i j:Nat}:((rW d).set i [.int .u32 d[j]!]).set j [.int .u32 d[i]!]=rW (Sort.swp d i j):=by rw[zD3,zD3];rfl
theorem zb3{d:Array Int}{i j:Nat}:(Sort.swp d i j).size=d.size:=by simp[Sort.swp]
theorem zd9{ρ:Nat→Nat}{d:Array Int}{g:Nat}:AObj.ren ρ (.row 1 (rW d) g)=.row 1 (rW d) g:=by simp only[AObj.ren,rW];rw[zh2 (zD fun _=>rfl)]
end Go.Ab
namespace Go.Ab
open Go.RowKit Go.Proofs Go.Sort
theorem zBZ(x:Int):zz Tryz.prog zd3 [.int .u32 x] (·=.bool false):=by
 refine fn_x znb rfl ?_
 unfold zik;conv in dcC _ _=>cbv
 (repeat first|simp(disch:=try exact dis1) only[evD,Nat.reduceBEq,Nat.reduceAdd,Nat.reduceLeDiff,ziO,ne_eq,not_true_eq_false,decide_false]|with_reducible first|intro _|refine aJ ?_)
 exact⟨_,.bool _ _,rfl⟩
theorem ze2(x y:Int):zz Tryz.prog zK [.int .u32 x,.int .u32 y] (·=.bool (Sort.ltInt x y)):=by
 refine fn_x zom rfl ?_
 unfold zjw;conv in dcC _ _=>cbv
 (refine Gw0 ?_;intros);refine zi (zf (zBZ x) rfl) ?_;(refine Gw1 @zjm.eq_1 ?_;intros);exact⟨_,.bool _ _,rfl⟩
theorem Qb{p q:Prop}(k:q)(h:Im q p:=by(repeat first|simp(disch:=try exact dis1) only[evD,Nat.reduceBEq,Nat.reduceAdd,Nat.reduceLeDiff,dT,dF] | ((with_reducible apply Im.i);intro _) | ((with_reducible apply Im.a);omega));exact Im.r):p:=h k
theorem zpT(d:Array Int)(g a b:Nat)(hab:a≤b)(hb:b≤d.size)(hs:d.size≤1000000):
  zU Tryz.prog zaO [.own 0 0 g 0 d.size,.int .i64 a,.int .i64 b] [(0,.row 1 (rW d) g)] 1
   (fun v H nx=>v=.tup []∧H=[(0,.row 1 (rW (insertionSort ltInt d a b)) g)]∧nx=1):=by
 refine zR (fn_x ze6 rfl ?_)
 unfold zb0;conv in dcC _ _=>cbv
 have hB:=hBig;(refine Gw0 ?_;intros)
 refine zd (fun x:Nat × Array Int=>([(0,.own 0 0 g 0 d.size),(1,.int .i64 a),(2,.int .i64 b),(6,.int .i64 x.1)],[(0,.row 1 (rW x.2) g)])) 1
  (fun x=>a+1≤x.1∧x.1≤b+1∧x.2.size=d.size∧insOuter ltInt a b x.1 x.2=insertionSort ltInt d a b) (fun x=>b+1 - x.1) (a+1,d) ⟨Wa _,by omega,rfl,rfl⟩ (Ent.tabB [(0,0,0)] [] rfl rfl rfl Qh Qh) ?_
 rintro⟨i,e⟩ ⟨h1,h2,h3,h4⟩ wf;simp only at h1 h2 h3 h4
 unfold zbx;conv in dcC _ _=>cbv
 by_cases hi:i < b
 ·
  rw[insOuter_go ltInt a b i e hi] at h4;(refine Gw1 @dT ?_;intros)
  refine zd (fun x:Nat × Array Int=>([(0,.own 0 0 g 0 d.size),(1,.int .i64 a),(2,.int .i64 b),(6,.int .i64 i),(7,.int .i64 x.1)],[(0,.row 1 (rW x.2) g)])) 1
   (fun x=>a≤x.1∧x.1≤i∧x.2.size=d.size∧insInner ltInt a x.1 x.2=insInner ltInt a i e) (fun x=>x.1) (i,e) ⟨by omega,Wa _,h3,rfl⟩ (Ent.tabB [(0,0,0)] [] rfl rfl rfl Qh Qh) ?_
  rintro⟨j,f⟩ ⟨k1,k2,k3,k4⟩ wf2;simp only at k1 k2 k3 k4
  unfold zbA;conv in dcC _ _=>cbv
  by_cases hj:a < j
  ·
   have e1:((j:Int) - 1).toNat=j - 1:=by omega
   have g1:=za4 (d:=f) (i:=j) (by omega);have g2:=za4 (d:=f) (i:=j - 1) (by omega);have hl:=zhv (d:=f);(refine Gw7 @dT @dF hl k3 e1 g1 g2 ?_;intros);refine zG (zf (ze2 _ _) rfl) ?_
   cases hc:ltInt f[j]! f[j - 1]! with
   |
    true =>
    rw[insInner_go ltInt a j f hj hc] at k4;(refine Gw8 @dT @dF hl k3 e1 g1 g2 @m9S ?_;intros)
    all_goals rw[zgG]
    all_goals exact⟨(j - 1,swp f j (j - 1)),⟨by omega,by omega,by rw[zb3];exact k3,k4⟩,by omega,(Ent.tabB [(0,0,0)] [] rfl rfl rfl Qh Qh)⟩
   |
    false =>
    rw[insInner_stop ltInt a j f (Wd hc)] at k4;(refine Qb ?_;intros)
    unfold zat;conv in dcC _ _=>cbv
    (refine Qb ?_;intros);exact⟨(i+1,f),⟨by omega,by omega,k3,by rw[k4];exact h4⟩,by omega,(Ent.tabB [(0,0,0)] [] rfl rfl rfl Qh Qh)⟩
  ·
   rw[insInner_stop ltInt a j f (Wc (by omega))] at k4;(refine Qb ?_;intros)
   unfold zat;conv in dcC _ _=>cbv
   (refine Qb ?_;intros);exact⟨(i+1,f),⟨by omega,by omega,k3,by rw[k4];exact h4⟩,by omega,(Ent.tabB [(0,0,0)] [] rfl rfl rfl Qh Qh)⟩
 · rw[insOuter_stop ltInt a b i e hi] at h4;(refine Gw2 @dF @zbU.eq_1 ?_;intros);refine⟨.tup [],[(0,.row 1 (rW (insertionSort ltInt d a b)) g)],1,?_,rfl,rfl,rfl⟩;rw[←h4];exact(Ent.tabB [(0,0,0)] [] rfl rfl rfl Qh Qh)
theorem zq2(d:Array Int)(g lo hi F:Nat)(hlo:lo≤hi)(hb:F+hi≤d.size)(hs:d.size≤1000000):
  zU Tryz.prog zY [.own 0 0 g 0 d.size,.int .i64 lo,.int .i64 hi,.int .i64 F] [(0,.row 1 (rW d) g)] 1
   (fun v H nx=>v=.tup []∧H=[(0,.row 1 (rW (siftDown ltInt hi F lo d)) g)]∧nx=1):=by
 refine zR (fn_x zgz rfl ?_)
 unfold zcZ;conv in dcC _ _=>cbv
 have hB:=hBig;(refine Gw0 ?_;intros)
 refine zd (fun x:Nat × Array Int=>([(0,.own 0 0 g 0 d.size),(2,.int .i64 hi),(3,.int .i64 F),(8,.int .i64 x.1)],[(0,.row 1 (rW x.2) g)])) 1
  (fun x=>x.1≤hi∧x.2.size=d.size∧siftDown ltInt hi F x.1 x.2=siftDown ltInt hi F lo d) (fun x=>hi - x.1) (lo,d) ⟨hlo,rfl,rfl⟩ (Ent.tabB [(0,0,0)] [] rfl rfl rfl Qh Qh) ?_
 rintro⟨r,e⟩ ⟨h1,h3,h4⟩ wf;simp only at h1 h3 h4;have hl:=zhv (d:=e)
 have fin:siftDown ltInt hi F r e=e→zD6 1 (fun v H nx=>v=.tup []∧H=[(0,.row 1 (rW (siftDown ltInt hi F lo d)) g)]∧nx=1) (.tup []) [(0,.row 1 (rW e) g)] 1:=fun h=>by refine⟨.tup [],[(0,.row 1 (rW (siftDown ltInt hi F lo d)) g)],1,?_,rfl,rfl,rfl⟩;rw[←h4,h];exact(Ent.tabB [(0,0,0)] [] rfl rfl rfl Qh Qh)
 unfold zcw;conv in dcC _ _=>cbv
 by_cases h0:2 * r+1 < hi
 ·
  have g0:=za4 (d:=e) (i:=F+r) (by omega);have g1:=za4 (d:=e) (i:=F+(2 * r+1)) (by omega)
  have e0:((F:Int)+(r:Int)).toNat=F+r:=by omega
  have e1:((F:Int)+(2 * (r:Int)+1)).toNat=F+(2 * r+1):=by omega
  have e2:((F:Int)+(2 * (r:Int)+1+1)).toNat=F+(2 * r+2):=by omega
  have e3:((F:Int)+(2 * (r:Int)+1)+1).toNat=F+(2 * r+2):=by omega
  by_cases h5:2 * r+2 < hi
  ·
   have g2:=za4 (d:=e) (i:=F+(2 * r+2)) (by omega);(refine Gw11 @dT @dF hl h3 e0 e1 e2 e3 g0 g1 g2 ?_;intros);refine zG (zf (ze2 _ _) rfl) ?_
   cases hc:ltInt e[F+(2 * r+1)]! e[F+(2 * r+2)]! with
   |
    true =>
    (refine Gw11 @dT @dF hl h3 e0 e1 e2 e3 g0 g1 g2 ?_;intros);refine zG (zf (ze2 _ _) rfl) ?_
    cases hc2:ltInt e[F+r]! e[F+(2 * r+2)]! with
    |
     true =>
     rw[sd_right_go ltInt e h5 hc hc2] at h4;(refine Gw12 @dT @dF hl h3 e0 e1 e2 e3 g0 g1 g2 @m9S ?_;intros)
     all_goals rw[zgG]
     all_goals exact⟨(2 * r+2,swp e (F+r) (F+(2 * r+2))),⟨by omega,by rw[zb3];exact h3,h4⟩,by omega,(Ent.tabB [(0,0,0)] [] rfl rfl rfl Qh Qh)⟩
    |
     false =>
     (refine Gw3 @dT @dF @zag.eq_1 ?_;intros);exact fin (sd_right_stop ltInt e h5 hc hc2)
   |
    false =>
    (refine Gw11 @dT @dF hl h3 e0 e1 e2 e3 g0 g1 g2 ?_;intros);refine zG (zf (ze2 _ _) rfl) ?_
    cases hc2:ltInt e[F+r]! e[F+(2 * r+1)]! with
    |
     true =>
     rw[sd_left_go ltInt e h0 (fun _=>hc) hc2] at h4;(refine Gw12 @dT @dF hl h3 e0 e1 e2 e3 g0 g1 g2 @m9S ?_;intros)
     all_goals rw[zgG]
     all_goals exact⟨(2 * r+1,swp e (F+r) (F+(2 * r+1))),⟨by omega,by rw[zb3];exact h3,h4⟩,by omega,(Ent.tabB [(0,0,0)] [] rfl rfl rfl Qh Qh)⟩
    |
     false =>
     (refine Gw3 @dT @dF @zag.eq_1 ?_;intros);exact fin (sd_left_stop ltInt e h0 (fun _=>hc) hc2)
  ·
   (refine Gw10 @dT @dF hl h3 e0 e1 e2 e3 g0 g1 ?_;intros);refine zG (zf (ze2 _ _) rfl) ?_
   cases hc2:ltInt e[F+r]! e[F+(2 * r+1)]! with
   |
    true =>
    rw[sd_left_go ltInt e h0 (fun h=>absurd h h5) hc2] at h4;(refine Gw11 @dT @dF hl h3 e0 e1 e2 e3 g0 g1 @m9S ?_;intros)
    all_goals rw[zgG]
    all_goals exact⟨(2 * r+1,swp e (F+r) (F+(2 * r+1))),⟨by omega,by rw[zb3];exact h3,h4⟩,by omega,(Ent.tabB [(0,0,0)] [] rfl rfl rfl Qh Qh)⟩
   |
    false =>
    (refine Gw3 @dT @dF @zag.eq_1 ?_;intros);exact fin (sd_left_stop ltInt e h0 (fun h=>absurd h h5) hc2)
 · (refine Gw3 @dT @dF @zag.eq_1 ?_;intros);exact fin (sd_end ltInt e (by omega))
theorem zwr(d:Array Int)(g a b:Nat)(hab:a≤b)(hb:b≤d.size)(hs:d.size≤1000000):
  zU Tryz.prog zbr [.own 0 0 g 0 d.size,.int .i64 a,.int .i64 b] [(0,.row 1 (rW d) g)] 1
   (fun v H nx=>v=.tup []∧H=[(0,.row 1 (rW (heapSort ltInt d a b)) g)]∧nx=1):=by
 refine zR (fn_x zgx rfl ?_)
 unfold zcX;conv in dcC _ _=>cbv
 have hB:=hBig
 have ecast:(b:Int) - (a:Int)=((b - a:Nat):Int):=by omega
 have hhalf:=half_start hab;rw[ecast] at hhalf;(refine Gw2 ecast hhalf ?_;intros)
 refine zd (fun x:Nat × Array Int=>([(0,.own 0 0 g 0 d.size),(6,.int .i64 a),(7,.int .i64 0),(8,.int .i64 (b - a:Nat)),(9,.int .i64 ((x.1:Int) - 1))],[(0,.row 1 (rW x.2) g)])) 1
  (fun x=>x.1≤(b - a - 1) / 2+1∧x.2.size=d.size∧heapBuild ltInt (b - a) a x.1 x.2=heapBuild ltInt (b - a) a ((b - a - 1) / 2+1) d) (fun x=>x.1) ((b - a - 1) / 2+1,d) ⟨Wa _,rfl,rfl⟩ (Ent.tabB [(0,0,0)] [] rfl rfl rfl Qh Qh) ?_
 rintro⟨k,e⟩ ⟨h1,h3,h4⟩ wf;simp only at h1 h3 h4
 unfold zcx;conv in dcC _ _=>cbv
 have hl:=zhv (d:=e)
 cases k with
 |
  succ k =>
  have hsz:=size_siftDown ltInt (b - a) a (b - a) k e (by omega)
  have h5:zU Tryz.prog zY [.own 0 0 g 0 e.size,.int .i64 k,.int .i64 (b - a:Nat),.int .i64 a] [(0,.row 1 (rW e) g)] 1
    (fun v H nx=>v=.tup []∧H=[(0,.row 1 (rW (siftDown ltInt (b - a) a k e)) g)]∧nx=1):=zq2 e g k (b - a) a (by omega) (by omega) (by omega)
  rw[h3] at h5
  have ek:(((k+1:Nat):Int) - 1)=(k:Int):=by omega
  (refine Gw5 @dT @dF ek hl h3 ?_;intros);refine zx [(0,0,0)] 1 _ (h5) rfl rfl fin9 fin9 ?_;rintro v H nx ⟨rfl,rfl,rfl⟩;(refine Gw3 @dT @dF @zd9 ?_;intros);exact⟨(k,siftDown ltInt (b - a) a k e),⟨by simp only;omega,by simp only;omega,by simp only;rw[←h4];rfl⟩,by simp only;omega,(Ent.tabB [(0,0,0)] [] rfl rfl rfl Qh Qh)⟩
 |
  zero =>
  (refine Qb ?_;intros)
  unfold zco;conv in dcC _ _=>cbv
  (refine Qb ?_;intros)
  refine zd (fun x:Nat × Array Int=>([(0,.own 0 0 g 0 d.size),(6,.int .i64 a),(7,.int .i64 0),(10,.int .i64 ((x.1:Int) - 1))],[(0,.row 1 (rW x.2) g)])) 1
   (fun x=>x.1≤b - a∧x.2.size=d.size∧heapPop ltInt a x.1 x.2=heapSort ltInt d a b) (fun x=>x.1) (b - a,e) ⟨Wa _,h3,by simp only;rw[heapSort,←h4];rfl⟩ (Ent.tabB [(0,0,0)] [] rfl rfl rfl Qh Qh) ?_
  rintro⟨k,f⟩ ⟨j1,j3,j4⟩ wf2;simp only at j1 j3 j4
  unfold zcy;conv in dcC _ _=>cbv
  have hl:=zhv (d:=f)
  cases k with
  |
   succ k =>
   have ek:(((k+1:Nat):Int) - 1)=(k:Int):=by omega
   have e0:((a:Int)+(k:Int)).toNat=a+k:=by omega
   have g0:=za4 (d:=f) (i:=a) (by omega);have g1:=za4 (d:=f) (i:=a+k) (by omega)
   have h5:zU Tryz.prog zY [.own 0 0 g 0 (swp f a (a+k)).size,.int .i64 (0:Nat),.int .i64 k,.int .i64 a] [(0,.row 1 (rW (swp f a (a+k))) g)] 1
     (fun v H nx=>v=.tup []∧H=[(0,.row 1 (rW (siftDown ltInt k a 0 (swp f a (a+k)))) g)]∧nx=1):=zq2 (swp f a (a+k)) g 0 k a (by omega) (by rw[zb3];omega) (by rw[zb3];omega)
   have hsz:=size_siftDown ltInt k a k 0 (swp f a (a+k)) (by omega);rw[zb3] at hsz;rw[zb3,j3] at h5;have h6:((0:Nat):Int)=0:=rfl;rw[h6] at h5;(refine Gw9 @dT @dF ek hl j3 e0 g0 g1 @m9S ?_;intros)
   all_goals rw[zgG]
   all_goals refine zx [(0,0,0)] 1 _ (h5) rfl rfl fin9 fin9 ?_
   all_goals rintro v H nx ⟨rfl,rfl,rfl⟩
   all_goals (refine Gw3 @dT @dF @zd9 ?_;intros;try with_reducible exact trivial)
   all_goals exact⟨(k,siftDown ltInt k a 0 (swp f a (a+k))),⟨by simp only;omega,by simp only;omega,by simp only;rw[←j4];rfl⟩,by simp only;omega,(Ent.tabB [(0,0,0)] [] rfl rfl rfl Qh Qh)⟩
  |
   zero =>
   (refine Gw3 @dT @dF @zcW.eq_1 ?_;intros);refine⟨.tup [],[(0,.row 1 (rW (heapSort ltInt d a b)) g)],1,?_,rfl,rfl,rfl⟩;rw[←j4];exact(Ent.tabB [(0,0,0)] [] rfl rfl rfl Qh Qh)
theorem zqu(d:Array Int)(g a b:Nat)(hab:a < b)(hb:b≤d.size)(hs:d.size≤1000000):
  zU Tryz.prog zaX [.own 0 0 g 0 d.size,.int .i64 a,.int .i64 b] [(0,.row 1 (rW d) g)] 1
   (fun v H nx=>v=.tup []∧H=[(0,.row 1 (rW (reverseRange d a b)) g)]∧nx=1):=by
 refine zR (fn_x zff rfl ?_)
 unfold zcf;conv in dcC _ _=>cbv
 have hB:=hBig;(refine Gw0 ?_;intros)
 have eb:(b:Int) - 1=((b - 1:Nat):Int):=by omega
 rw[eb]
 refine zd (fun x:Nat × Nat × Array Int=>([(0,.own 0 0 g 0 d.size),(6,.int .i64 x.1),(7,.int .i64 x.2.1)],[(0,.row 1 (rW x.2.2) g)])) 1
  (fun x=>x.1≤x.2.1+1∧x.2.1 < b∧x.2.2.size=d.size∧reverseLoop x.1 x.2.1 x.2.2=reverseRange d a b) (fun x=>x.2.1) (a,b - 1,d) ⟨by simp only;omega,by simp only;omega,rfl,rfl⟩ (Ent.tabB [(0,0,0)] [] rfl rfl rfl Qh Qh) ?_
 rintro⟨i,j,e⟩ ⟨h1,h2,h3,h4⟩ wf;simp only at h1 h2 h3 h4
 unfold zbN;conv in dcC _ _=>cbv
 have hl:=zhv (d:=e)
 by_cases hij:i < j
 ·
  rw[reverseLoop,if_pos hij] at h4;have g0:=za4 (d:=e) (i:=i) (by omega);have g1:=za4 (d:=e) (i:=j) (by omega);(refine Gw7 @dT @dF hl h3 g0 g1 @m9S ?_;intros)
  all_goals rw[zgG]
  all_goals exact⟨(i+1,j - 1,swp e i j),⟨by simp only;omega,by simp only;omega,by simp only;rw[zb3];exact h3,h4⟩,by simp only;omega,(Ent.tabB [(0,0,0)] [] rfl rfl rfl Qh Qh)⟩
 · rw[reverseLoop,if_neg hij] at h4;(refine Gw3 @dT @dF @zb8.eq_1 ?_;intros);refine⟨.tup [],[(0,.row 1 (rW (reverseRange d a b)) g)],1,?_,rfl,rfl,rfl⟩;rw[←h4];exact(Ent.tabB [(0,0,0)] [] rfl rfl rfl Qh Qh)
theorem zoK(d:Array Int)(g a b pv:Nat)(hap:a≤pv)(hpb:pv < b)(hb:b≤d.size)(hs:d.size≤1000000):
  zU Tryz.prog zaD [.own 0 0 g 0 d.size,.int .i64 a,.int .i64 b,.int .i64 pv] [(0,.row 1 (rW d) g)] 1
   (fun v H nx=>v=.int .i64 (partitionEqual ltInt d a b pv).1∧H=[(0,.row 1 (rW (partitionEqual ltInt d a b pv).2) g)]∧nx=1):=by
 refine zR (fn_x zeC rfl ?_)
 unfold zbR;conv in dcC _ _=>cbv
 have hB:=hBig;have hl:=zhv (d:=d);have g0:=za4 (d:=d) (i:=a) (by omega);have g1:=za4 (d:=d) (i:=pv) (by omega);(refine Gw6 @dT @dF hl g0 g1 @m9S ?_;intros)
 all_goals rw[zgG]
 have eb:(b:Int) - 1=((b - 1:Nat):Int):=by omega
 rw[eb]
 refine zd (fun x:Nat × Nat × Array Int=>([(0,.own 0 0 g 0 d.size),(1,.int .i64 a),(9,.int .i64 x.1),(10,.int .i64 x.2.1)],[(0,.row 1 (rW x.2.2) g)])) 1
  (fun x=>a < x.1∧x.1≤x.2.1+1∧x.2.1 < b∧x.2.2.size=d.size∧partEqLoop ltInt a x.1 x.2.1 x.2.2=partitionEqual ltInt d a b pv) (fun x=>x.2.1+1 - x.1) (a+1,b - 1,swp d a pv)
  ⟨by simp only;omega,by simp only;omega,by simp only;omega,zb3,rfl⟩ (Ent.tabB [(0,0,0)] [] rfl rfl rfl Qh Qh) ?_
 rintro⟨i,j,e⟩ ⟨h1,h2,h3,h4,h5⟩ wf;simp only at h1 h2 h3 h4 h5;clear g0 g1 hl;have hl:=zhv (d:=e);have ga:=za4 (d:=e) (i:=a) (by omega);unfold zbg;(refine Gw0 ?_;intros)
 refine zd (fun x:Nat=>([(0,.own 0 0 g 0 d.size),(1,.int .i64 a),(9,.int .i64 x),(10,.int .i64 j)],[(0,.row 1 (rW e) g)])) 1
  (fun x=>i≤x∧x≤j+1∧scanUp (fun x => !ltInt e[a]! x) e j x=scanUp (fun x => !ltInt e[a]! x) e j i) (fun x=>j+1 - x) i ⟨Wa _,h2,rfl⟩ (Ent.tabB [(0,0,0)] [] rfl rfl rfl Qh Qh) ?_
 rintro i' ⟨k1,k2,k3⟩ wf2
 unfold zbo;conv in dcC _ _=>cbv
 by_cases hle:i'≤j
 case' pos =>
  have gi:=za4 (d:=e) (i:=i') (by omega);(refine Gw6 @dT @dF hl h4 ga gi ?_;intros);refine zG (zf (ze2 _ _) rfl) ?_;cases hc:ltInt e[a]! e[i']!
  case false =>rw[scanUp_go (fun x => !ltInt e[a]! x) e j i' hle (by simp only[hc];rfl)] at k3;(refine Qb ?_;intros);exact⟨i'+1,⟨by omega,by omega,k3⟩,by omega,(Ent.tabB [(0,0,0)] [] rfl rfl rfl Qh Qh)⟩
  have hi2:i'=scanUp (fun x => !ltInt e[a]! x) e j i:=(scanUp_end (fun x => !ltInt e[a]! x) e j i' (Wd (by simp only[hc];rfl))).symm.trans k3;clear hc gi;(refine Qb ?_;intros)
 case' neg =>
  have hi2:i'=scanUp (fun x => !ltInt e[a]! x) e j i:=(scanUp_end (fun x => !ltInt e[a]! x) e j i' (Wc hle)).symm.trans k3;(refine Qb ?_;intros)
 all_goals
  clear hle k3;unfold zbn;(refine Gw0 ?_;intros)
  refine zd (fun x:Nat=>([(0,.own 0 0 g 0 d.size),(1,.int .i64 a),(9,.int .i64 i'),(10,.int .i64 x)],[(0,.row 1 (rW e) g)])) 1
   (fun x=>x≤j∧i'≤x+1∧scanDown (fun x=>ltInt e[a]! x) e i' x=scanDown (fun x=>ltInt e[a]! x) e i' j) (fun x=>x) j ⟨Wa _,k2,rfl⟩ (Ent.tabB [(0,0,0)] [] rfl rfl rfl Qh Qh) ?_
  rintro j' ⟨m1,m2,m3⟩ wf3
  unfold zbm;conv in dcC _ _=>cbv
  by_cases hle:i'≤j'
  case' pos =>
   have gj:=za4 (d:=e) (i:=j') (by omega);(refine Gw6 @dT @dF hl h4 ga gj ?_;intros);refine zG (zf (ze2 _ _) rfl) ?_;cases hc:ltInt e[a]! e[j']!
   case true =>rw[scanDown_go (fun x=>ltInt e[a]! x) e i' j' hle (by omega) hc] at m3;(refine Qb ?_;intros);exact⟨j' - 1,⟨by omega,by omega,m3⟩,by omega,(Ent.tabB [(0,0,0)] [] rfl rfl rfl Qh Qh)⟩
   have hj2:j'=scanDown (fun x=>ltInt e[a]! x) e i' j:=(scanDown_end (fun x=>ltInt e[a]! x) e i' j' (Wd hc)).symm.trans m3;clear hc gj;(refine Qb ?_;intros)
  case' neg =>
   have hj2:j'=scanDown (fun x=>ltInt e[a]! x) e i' j:=(scanDown_end (fun x=>ltInt e[a]! x) e i' j' (Wc hle)).symm.trans m3;(refine Qb ?_;intros)
 all_goals
  clear hle m3
  unfold zbh;conv in dcC _ _=>cbv
  by_cases hgt:j' < i'
  · have hbr:=partEq_break ltInt a i j e hi2 hj2 hgt;(refine Qb ?_;intros);unfold zbk;(refine Gw1 @zbQ.eq_1 ?_;intros);refine⟨.int .i64 (partitionEqual ltInt d a b pv).1,[(0,.row 1 (rW (partitionEqual ltInt d a b pv).2) g)],1,?_,rfl,rfl,rfl⟩;rw[←h5,hbr];exact(Ent.tabB [(0,0,0)] [] rfl rfl rfl Qh Qh)
  ·
   have hlt:=scans_lt ltInt a i j e (by omega) hi2 hj2 (by omega);rw[partEq_go ltInt a i j e hi2 hj2 hgt] at h5;have gi:=za4 (d:=e) (i:=i') (by omega);have gj:=za4 (d:=e) (i:=j') (by omega);(refine Gw7 @dT @dF hl h4 gi gj @m9S ?_;intros)
   all_goals rw[zgG]
   all_goals exact⟨(i'+1,j' - 1,swp e i' j'),⟨by simp only;omega,by simp only;omega,by simp only;omega,by simp only;rw[zb3];exact h4,h5⟩,by simp only;omega,(Ent.tabB [(0,0,0)] [] rfl rfl rfl Qh Qh)⟩
set_option maxHeartbeats 4000000 in
theorem zuB(d:Array Int)(g a b pv:Nat)(hap:a≤pv)(hpb:pv < b)(hb:b≤d.size)(hs:d.size≤1000000):
  zU Tryz.prog zbd [.own 0 0 g 0 d.size,.int .i64 a,.int .i64 b,.int .i64 pv] [(0,.row 1 (rW d) g)] 1
   (fun v H nx=>v=.tup [.int .i64 (partition ltInt d a b pv).1,.bool (partition ltInt d a b pv).2.1]∧H=[(0,.row 1 (rW (partition ltInt d a b pv).2.2) g)]∧nx=1):=by
 refine zR (fn_x zfN rfl ?_)
 unfold zcS;conv in dcC _ _=>cbv
 have hB:=hBig;have hl:=zhv (d:=d);have g0:=za4 (d:=d) (i:=a) (by omega);have g1:=za4 (d:=d) (i:=pv) (by omega);(refine Gw6 @dT @dF hl g0 g1 @m9S ?_;intros)
 all_goals rw[zgG]
 have eb:(b:Int) - 1=((b - 1:Nat):Int):=by omega
 rw[eb];generalize he:swp d a pv=e
 have hes:e.size=d.size:=by rw[←he];exact zb3
 clear g0 g1 hl;have hl:=zhv (d:=e);have ga:=za4 (d:=e) (i:=a) (by omega)
 refine zd (fun x:Nat=>([(0,.own 0 0 g 0 d.size),(1,.int .i64 a),(10,.int .i64 x),(11,.int .i64 (b - 1:Nat))],[(0,.row 1 (rW e) g)])) 1
  (fun x=>a+1≤x∧x≤b - 1+1∧scanUp (fun x=>ltInt x e[a]!) e (b - 1) x=scanUp (fun x=>ltInt x e[a]!) e (b - 1) (a+1)) (fun x=>b - 1+1 - x) (a+1) ⟨Wa _,by omega,rfl⟩ (Ent.tabB [(0,0,0)] [] rfl rfl rfl Qh Qh) ?_
 rintro i' ⟨k1,k2,k3⟩ wf2
 unfold zci;conv in dcC _ _=>cbv
 by_cases hle:i'≤b - 1
 case' pos =>
  have gi:=za4 (d:=e) (i:=i') (by omega);(refine Gw6 @dT @dF hl hes ga gi ?_;intros);refine zG (zf (ze2 _ _) rfl) ?_;cases hc:ltInt e[i']! e[a]!
  case true =>rw[scanUp_go (fun x=>ltInt x e[a]!) e (b - 1) i' hle hc] at k3;(refine Qb ?_;intros);exact⟨i'+1,⟨by omega,by omega,k3⟩,by omega,(Ent.tabB [(0,0,0)] [] rfl rfl rfl Qh Qh)⟩
  have hi2:i'=scanUp (fun x=>ltInt x e[a]!) e (b - 1) (a+1):=(scanUp_end (fun x=>ltInt x e[a]!) e (b - 1) i' (Wd hc)).symm.trans k3;clear hc gi;(refine Qb ?_;intros)
 case' neg =>
  have hi2:i'=scanUp (fun x=>ltInt x e[a]!) e (b - 1) (a+1):=(scanUp_end (fun x=>ltInt x e[a]!) e (b - 1) i' (Wc hle)).symm.trans k3;(refine Qb ?_;intros)
 all_goals
  clear hle k3;unfold zca;(refine Gw0 ?_;intros)
  refine zd (fun x:Nat=>([(0,.own 0 0 g 0 d.size),(1,.int .i64 a),(10,.int .i64 i'),(11,.int .i64 x)],[(0,.row 1 (rW e) g)])) 1
   (fun x=>x≤b - 1∧i'≤x+1∧scanDown (fun x => !ltInt x e[a]!) e i' x=scanDown (fun x => !ltInt x e[a]!) e i' (b - 1)) (fun x=>x) (b - 1) ⟨Wa _,k2,rfl⟩ (Ent.tabB [(0,0,0)] [] rfl rfl rfl Qh Qh) ?_
  rintro j' ⟨m1,m2,m3⟩ wf3
  unfold zcj;conv in dcC _ _=>cbv
  by_cases hle:i'≤j'
  case' pos =>
   have gj:=za4 (d:=e) (i:=j') (by omega);(refine Gw6 @dT @dF hl hes ga gj ?_;intros);refine zG (zf (ze2 _ _) rfl) ?_;cases hc:ltInt e[j']! e[a]!
   case false =>rw[scanDown_go (fun x => !ltInt x e[a]!) e i' j' hle (by omega) (by simp only[hc];rfl)] at m3;(refine Qb ?_;intros);exact⟨j' - 1,⟨by omega,by omega,m3⟩,by omega,(Ent.tabB [(0,0,0)] [] rfl rfl rfl Qh Qh)⟩
   have hj2:j'=scanDown (fun x => !ltInt x e[a]!) e i' (b - 1):=(scanDown_end (fun x => !ltInt x e[a]!) e i' j' (Wd (by simp only[hc];rfl))).symm.trans m3;clear hc gj;(refine Qb ?_;intros)
  case' neg =>
   have hj2:j'=scanDown (fun x => !ltInt x e[a]!) e i' (b - 1):=(scanDown_end (fun x => !ltInt x e[a]!) e i' j' (Wc hle)).symm.trans m3;(refine Qb ?_;intros)
 all_goals
  clear hle m3 wf2 wf3
  unfold zcd;conv in dcC _ _=>cbv
  have gj:=za4 (d:=e) (i:=j') (by omega)
  by_cases hgt:j' < i'
  ·
   have hbr:=part_first_break ltInt d a b pv rfl rfl he.symm hi2 hj2 hgt;(refine Gw8 @dT @dF hl hes ga gj @m9S @za7.eq_1 ?_;intros)
   all_goals rw[zgG]
   all_goals rw[hbr]
   all_goals exact⟨_,_,1,(Ent.tabB [(0,0,0)] [] rfl rfl rfl Qh Qh),rfl,rfl,rfl⟩
  have hlt:=part_scans_lt ltInt (a:=a) (a+1) (b - 1) e (by omega) hi2 hj2 (by omega);have hgo:=part_first_go ltInt d a b pv rfl rfl he.symm hi2 hj2 hgt;have gi:=za4 (d:=e) (i:=i') (by omega);rw[hgo];(refine Gw7 @dT @dF hl hes gi gj @m9S ?_;intros)
  all_goals rw[zgG]
  clear gi gj
  refine zd (fun x:Nat × Nat × Array Int=>([(0,.own 0 0 g 0 d.size),(1,.int .i64 a),(10,.int .i64 x.1),(11,.int .i64 x.2.1)],[(0,.row 1 (rW x.2.2) g)])) 1
   (fun x=>a < x.1∧x.1≤x.2.1+1∧x.2.1 < b∧x.2.2.size=d.size∧partLoop ltInt a x.1 x.2.1 x.2.2=partLoop ltInt a (i'+1) (j' - 1) (swp e i' j')) (fun x=>x.2.1+1 - x.1) (i'+1,j' - 1,swp e i' j')
   ⟨by simp only;omega,by simp only;omega,by simp only;omega,by simp only;rw[zb3];exact hes,rfl⟩ (Ent.tabB [(0,0,0)] [] rfl rfl rfl Qh Qh) ?_
  clear hgo hi2 hj2 hgt hlt m1 m2 k1 k2 ga hl hes he;generalize partLoop ltInt a (i'+1) (j' - 1) (swp e i' j')=R;clear i' j' e;rintro⟨i,j,e⟩ ⟨h1,h2,h3,h4,h5⟩ wf;simp only at h1 h2 h3 h4 h5;have hl:=zhv (d:=e);have ga:=za4 (d:=e) (i:=a) (by omega);unfold zcl;(refine Gw0 ?_;intros)
  refine zd (fun x:Nat=>([(0,.own 0 0 g 0 d.size),(1,.int .i64 a),(10,.int .i64 x),(11,.int .i64 j)],[(0,.row 1 (rW e) g)])) 1
   (fun x=>i≤x∧x≤j+1∧scanUp (fun x=>ltInt x e[a]!) e j x=scanUp (fun x=>ltInt x e[a]!) e j i) (fun x=>j+1 - x) i ⟨Wa _,h2,rfl⟩ (Ent.tabB [(0,0,0)] [] rfl rfl rfl Qh Qh) ?_
  rintro i' ⟨k1,k2,k3⟩ wf2
  unfold zcb;conv in dcC _ _=>cbv
  by_cases hle:i'≤j
  case' pos =>
   have gi:=za4 (d:=e) (i:=i') (by omega);(refine Gw6 @dT @dF hl h4 ga gi ?_;intros);refine zG (zf (ze2 _ _) rfl) ?_;cases hc:ltInt e[i']! e[a]!
   case true =>rw[scanUp_go (fun x=>ltInt x e[a]!) e j i' hle hc] at k3;(refine Qb ?_;intros);exact⟨i'+1,⟨by omega,by omega,k3⟩,by omega,(Ent.tabB [(0,0,0)] [] rfl rfl rfl Qh Qh)⟩
   have hi2:i'=scanUp (fun x=>ltInt x e[a]!) e j i:=(scanUp_end (fun x=>ltInt x e[a]!) e j i' (Wd hc)).symm.trans k3;clear hc gi;(refine Qb ?_;intros)
  case' neg =>
   have hi2:i'=scanUp (fun x=>ltInt x e[a]!) e j i:=(scanUp_end (fun x=>ltInt x e[a]!) e j i' (Wc hle)).symm.trans k3;(refine Qb ?_;intros)
 all_goals
  clear hle k3;unfold zb7;(refine Gw0 ?_;intros)
  refine zd (fun x:Nat=>([(0,.own 0 0 g 0 d.size),(1,.int .i64 a),(10,.int .i64 i'),(11,.int .i64 x)],[(0,.row 1 (rW e) g)])) 1
   (fun x=>x≤j∧i'≤x+1∧scanDown (fun x => !ltInt x e[a]!) e i' x=scanDown (fun x => !ltInt x e[a]!) e i' j) (fun x=>x) j ⟨Wa _,k2,rfl⟩ (Ent.tabB [(0,0,0)] [] rfl rfl rfl Qh Qh) ?_
  rintro j' ⟨m1,m2,m3⟩ wf3
  unfold zb9;conv in dcC _ _=>cbv
  by_cases hle:i'≤j'
  case' pos =>
   have gj:=za4 (d:=e) (i:=j') (by omega);(refine Gw6 @dT @dF hl h4 ga gj ?_;intros);refine zG (zf (ze2 _ _) rfl) ?_;cases hc:ltInt e[j']! e[a]!
   case false =>rw[scanDown_go (fun x => !ltInt x e[a]!) e i' j' hle (by omega) (by simp only[hc];rfl)] at m3;(refine Qb ?_;intros);exact⟨j' - 1,⟨by omega,by omega,m3⟩,by omega,(Ent.tabB [(0,0,0)] [] rfl rfl rfl Qh Qh)⟩
   have hj2:j'=scanDown (fun x => !ltInt x e[a]!) e i' j:=(scanDown_end (fun x => !ltInt x e[a]!) e i' j' (Wd (by simp only[hc];rfl))).symm.trans m3;clear hc gj;(refine Qb ?_;intros)
  case' neg =>
   have hj2:j'=scanDown (fun x => !ltInt x e[a]!) e i' j:=(scanDown_end (fun x => !ltInt x e[a]!) e i' j' (Wc hle)).symm.trans m3;(refine Qb ?_;intros)
 all_goals
  clear hle m3
  unfold zcc;conv in dcC _ _=>cbv
  have gj:=za4 (d:=e) (i:=j') (by omega)
  by_cases hgt:j' < i'
  ·
   have hbr:=part_break ltInt a i j e hi2 hj2 hgt;rw[hbr] at h5;(refine Qb ?_;intros)
   unfold zch;conv in dcC _ _=>cbv
   (refine Gw8 @dT @dF hl h4 ga gj @m9S @za7.eq_1 ?_;intros)
   all_goals rw[zgG]
   all_goals rw[←h5]
   all_goals exact⟨_,_,1,(Ent.tabB [(0,0,0)] [] rfl rfl rfl Qh Qh),rfl,rfl,rfl⟩
  ·
   have hlt:=part_scans_lt ltInt (a:=a) i j e (by omega) hi2 hj2 (by omega);rw[part_go ltInt a i j e hi2 hj2 hgt] at h5;have gi:=za4 (d:=e) (i:=i') (by omega);(refine Gw7 @dT @dF hl h4 gi gj @m9S ?_;intros)
   all_goals rw[zgG]
   all_goals exact⟨(i'+1,j' - 1,swp e i' j'),⟨by simp only;omega,by simp only;omega,by simp only;omega,by simp only;rw[zb3];exact h4,h5⟩,by simp only;omega,(Ent.tabB [(0,0,0)] [] rfl rfl rfl Qh Qh)⟩
theorem zk9{ρ:Nat→Nat}{k:IntKind}{s:Int}{g:Nat}:AObj.ren ρ (.row 1 [[.int k s]] g)=.row 1 [[.int k s]] g:=by simp[AObj.ren,AV.ren]
def swH(d:Array Int)(g:Nat)(s:Nat):AH:=[(0,.row 1 (rW d) g),(1,.row 1 [[.int .i64 s]] 0)]
theorem zqr(d:Array Int)(g a b s:Nat)(ha:a < d.size)(hb:b < d.size)(hs:d.size≤1000000)(hs2:s≤1000):
  zU Tryz.prog zao [.own 0 0 g 0 d.size,.int .i64 a,.int .i64 b,.ptr 1 0 0 0 0] (swH d g s) 2
   (fun v H nx=>∃x y s':Nat,((x=a∧y=b)∨(x=b∧y=a))∧s'≤s+1∧v=.tup [.int .i64 x,.int .i64 y]∧H=swH d g s'∧nx=2):=by
 refine zR (fn_x zhg rfl ?_)
 unfold zdl swH;conv in dcC _ _=>cbv
 have hB:=hBig;have hl:=zhv (d:=d);have g0:=za4 (d:=d) (i:=a) (by omega);have g1:=za4 (d:=d) (i:=b) (by omega);(refine Gw5 @dT @dF hl g0 g1 ?_;intros);refine zG (zf (ze2 _ _) rfl) ?_;cases hc:ltInt d[b]! d[a]!
 · (refine Gw3 @dT @dF @zbL.eq_1 ?_;intros);exact⟨_,_,2,(Ent.tabB [(0,0,0),(1,1,0)] [] rfl rfl rfl Qh Qh),a,b,s,.inl ⟨rfl,rfl⟩,by omega,rfl,rfl,rfl⟩
 ·
  (refine Gw3 @dT @dF @zbL.eq_1 ?_;intros)
  have es:(s:Int)+1=((s+1:Nat):Int):=by omega
  rw[es];exact⟨_,_,2,(Ent.tabB [(0,0,0),(1,1,0)] [] rfl rfl rfl Qh Qh),b,a,s+1,.inr ⟨rfl,rfl⟩,by omega,rfl,rfl,rfl⟩
theorem Qi{p:Prop}(h:p:=by(try simp only[evWB,Nat.reduceBEq,Nat.reduceAdd,Nat.reduceSub,Nat.reduceLeDiff,Nat.reduceLT,implies_true,swH])<;>exact fin6):p:=h
theorem uq:type_of% @swH.eq_1:=@swH.eq_1
theorem zqw(d:Array Int)(g a b c s:Nat)(ha:a < d.size)(hb:b < d.size)(hc:c < d.size)(hs:d.size≤1000000)(hs2:s≤900):
  zU Tryz.prog zaW [.own 0 0 g 0 d.size,.int .i64 a,.int .i64 b,.int .i64 c,.ptr 1 0 0 0 0] (swH d g s) 2
   (fun v H nx=>∃x s':Nat,(x=a∨x=b∨x=c)∧s'≤s+3∧v=.int .i64 x∧H=swH d g s'∧nx=2):=by
 refine zR (fn_x zhe rfl ?_)
 unfold zdp;conv in dcC _ _=>cbv
 have hB:=hBig;have h1:=zqr d g a b s ha hb hs (by omega);(refine Gw1 @uq ?_;intros);refine zx [(0,0,0),(1,1,0)] 2 _ (h1) rfl rfl Qi Qi ?_;rintro v H nx ⟨x,y,s1,hxy,hs1,rfl,rfl,rfl⟩;have h2:=zqr d g y c s1 (by omega) hc hs (by omega);(refine Gw3 @uq @zd9 @zk9 ?_;intros);refine zx [(0,0,0),(1,1,0)] 2 _ (h2) rfl rfl Qi Qi ?_;rintro v H nx ⟨y2,z2,s2,hyz,hs2',rfl,rfl,rfl⟩;have h3:=zqr d g x y2 s2 (by omega) (by omega) hs (by omega);(refine Gw3 @uq @zd9 @zk9 ?_;intros);refine zx [(0,0,0),(1,1,0)] 2 _ (h3) rfl rfl Qi Qi ?_;rintro v H nx ⟨x3,y3,s3,hxy3,hs3,rfl,rfl,rfl⟩;(refine Gw4 @uq @zd9 @zk9 @zdm.eq_1 ?_;intros);exact⟨_,_,2,(Ent.tabB [(0,0,0),(1,1,0)] [] rfl rfl rfl Qh Qh),y3,s3,by omega,by omega,rfl,rfl,rfl⟩
theorem zgS(d:Array Int)(g a s:Nat)(ha:1≤a)(hb:a+1 < d.size)(hs:d.size≤1000000)(hs2:s≤900):
  zU Tryz.prog zT [.own 0 0 g 0 d.size,.int .i64 a,.ptr 1 0 0 0 0] (swH d g s) 2
   (fun v H nx=>∃x s':Nat,(a≤x+1∧x≤a+1)∧s'≤s+3∧v=.int .i64 x∧H=swH d g s'∧nx=2):=by
 refine zR (fn_x zeA rfl ?_)
 unfold zbO;conv in dcC _ _=>cbv
 have hB:=hBig;have h1:=zqw d g (a - 1) a (a+1) s (by omega) (by omega) (by omega) hs hs2
 have e1:(a:Int) - 1=((a - 1:Nat):Int):=by omega
 have e2:(a:Int)+1=((a+1:Nat):Int):=by omega
 (refine Gw3 @uq e1 e2 ?_;intros);refine zx [(0,0,0),(1,1,0)] 2 _ (h1) rfl rfl Qi Qi ?_;rintro v H nx ⟨x,s1,hx,hs1,rfl,rfl,rfl⟩;(refine Gw4 @uq @zd9 @zk9 @zbP.eq_1 ?_;intros);exact⟨_,_,2,(Ent.tabB [(0,0,0),(1,1,0)] [] rfl rfl rfl Qh Qh),x,s1,by omega,by omega,rfl,rfl,rfl⟩
theorem Qj{p:Prop}(h:p:=by(try simp only[evWB,Nat.reduceBEq,Nat.reduceAdd,Nat.reduceSub,Nat.reduceLeDiff,Nat.reduceLT,implies_true,swH,Int.natCast_zero,Int.cast_ofNat_Int])<;>exact fin6):p:=h
set_option maxHeartbeats 1000000 in
theorem zrn(d:Array Int)(g a b:Nat)(hab:a < b)(hb:b≤d.size)(hs:d.size≤1000000):
  zU Tryz.prog za3 [.own 0 0 g 0 d.size,.int .i64 a,.int .i64 b] [(0,.row 1 (rW d) g)] 1
   (fun v H nx=>∃p h:Nat,a≤p∧p < b∧h≤2∧v=.tup [.int .i64 p,.int .i64 h]∧H=[(0,.row 1 (rW d) g)]∧nx=1):=by
 refine zR (fn_x zfA rfl ?_)
 unfold zcz;conv in dcC _ _=>cbv
 have hB:=hBig
 have ecast:(b:Int) - (a:Int)=((b - a:Nat):Int):=by omega
 have hq:((b - a:Nat):Int).tdiv 4=(((b - a) / 4:Nat):Int):=by rw[Wt (by omega)];omega
 have hq1:(b - a) / 4 * 4≤b - a:=WA _ _
 have hq2:8≤b - a→2≤(b - a) / 4:=fun h=>by omega
 generalize (b - a) / 4=q at hq hq1 hq2
 have e1:(a:Int)+(q:Int) * 1=((a+q:Nat):Int):=by omega
 have e2:(a:Int)+(q:Int) * 2=((a+q * 2:Nat):Int):=by omega
 have e3:(a:Int)+(q:Int) * 3=((a+q * 3:Nat):Int):=by omega
 rcases Wj (b - a) 8 with h8|h8
 · obtain⟨p,hp,hpa,hpb⟩:∃p,p=a+q * 2∧a≤p∧p < b:=⟨_,rfl,by omega,by omega⟩;rw[←hp] at e2;(refine Gw8 ecast hq e1 e2 e3 @dT @dF @z6.eq_1 ?_;intros);exact⟨_,_,1,(Ent.tabB [(0,0,0)] [] rfl rfl rfl Qh Qh),p,1,hpa,hpb,by omega,rfl,rfl,rfl⟩
 rcases Wj (b - a) 50 with h50|h50
 case' inl =>
  have h1:=zqw d g (a+q) (a+q * 2) (a+q * 3) 0 (by omega) (by omega) (by omega) hs (by omega);(refine Gw7 ecast hq e1 e2 e3 @dT @dF ?_;intros);refine zx [(0,0,0),(1,1,0)] 2 _ (h1) rfl rfl Qj Qj ?_;rintro v H nx ⟨p,s,hp,hs1,rfl,rfl,rfl⟩
 case' inr =>
  have h1:=zgS d g (a+q) 0 (by omega) (by omega) hs (by omega);(refine Gw7 ecast hq e1 e2 e3 @dT @dF ?_;intros);refine zx [(0,0,0),(1,1,0)] 2 _ (h1) rfl rfl Qj Qj ?_;rintro v H nx ⟨p1,s1,hp1,hs1,rfl,rfl,rfl⟩;have h2:=zgS d g (a+q * 2) s1 (by omega) (by omega) hs (by omega);(refine Gw3 @uq @zd9 @zk9 ?_;intros);refine zx [(0,0,0),(1,1,0)] 2 _ (h2) rfl rfl Qi Qi ?_;rintro v H nx ⟨p2,s2,hp2,hs2,rfl,rfl,rfl⟩;have h3:=zgS d g (a+q * 3) s2 (by omega) (by omega) hs (by omega);(refine Gw3 @uq @zd9 @zk9 ?_;intros);refine zx [(0,0,0),(1,1,0)] 2 _ (h3) rfl rfl Qi Qi ?_;rintro v H nx ⟨p3,s3,hp3,hs3,rfl,rfl,rfl⟩;have h4:=zqw d g p1 p2 p3 s3 (by omega) (by omega) (by omega) hs (by omega);(refine Gw3 @uq @zd9 @zk9 ?_;intros);refine zx [(0,0,0),(1,1,0)] 2 _ (h4) rfl rfl Qi Qi ?_;rintro v H nx ⟨p,s,hp,hs1,rfl,rfl,rfl⟩
 all_goals
  have hpa:a≤p∧p < b:=by omega
  (refine Gw3 @uq @zd9 @zk9 ?_;intros)
  by_cases hz:s=0
  · subst hz;(refine Gw3 @dT @dF @z6.eq_1 ?_;intros);exact⟨_,_,1,(Ent.tabB [(0,0,0)] [] rfl rfl rfl Qh Qh),p,1,hpa.1,hpa.2,by omega,rfl,rfl,rfl⟩
  by_cases hz2:s=12
  · subst hz2;(refine Gw3 @dT @dF @z6.eq_1 ?_;intros);exact⟨_,_,1,(Ent.tabB [(0,0,0)] [] rfl rfl rfl Qh Qh),p,2,hpa.1,hpa.2,by omega,rfl,rfl,rfl⟩
  (refine Gw3 @dT @dF @z6.eq_1 ?_;intros);exact⟨_,_,1,(Ent.tabB [(0,0,0)] [] rfl rfl rfl Qh Qh),p,0,hpa.1,hpa.2,by omega,rfl,rfl,rfl⟩
set_option maxHeartbeats 4000000 in
theorem zkx(d:Array Int)(g a b:Nat)(hab:a < b)(hb:b≤d.size)(hs:d.size≤1000000):
  zU Tryz.prog zal [.own 0 0 g 0 d.size,.int .i64 a,.int .i64 b] [(0,.row 1 (rW d) g)] 1
   (fun v H nx=>v=.bool (partialInsertionSort ltInt d a b).2∧H=[(0,.row 1 (rW (partialInsertionSort ltInt d a b).1) g)]∧nx=1):=by
 refine zR (fn_x zdk rfl ?_)
 unfold za5;conv in dcC _ _=>cbv
 have hB:=hBig;(refine Qb ?_;intros)
 refine zd (fun x:Nat × Nat × Array Int=>([(0,.own 0 0 g 0 d.size),(1,.int .i64 a),(2,.int .i64 b),(7,.int .i64 x.2.1),(8,.int .i64 x.1)],[(0,.row 1 (rW x.2.2) g)])) 1
  (fun x=>x.1≤5∧a+1≤x.2.1∧x.2.1≤b∧x.2.2.size=d.size∧partialIns ltInt a b (5 - x.1) x.2.1 x.2.2=partialInsertionSort ltInt d a b) (fun x=>5 - x.1) (0,a+1,d)
  ⟨by simp only;omega,by simp only;omega,by simp only;omega,rfl,rfl⟩ (Ent.tabB [(0,0,0)] [] rfl rfl rfl Qh Qh) ?_
 generalize partialInsertionSort ltInt d a b=R;rintro⟨s,i,e⟩ ⟨h1,h2,h3,h4,h5⟩ wf;simp only at h1 h2 h3 h4 h5
 unfold zaQ;conv in dcC _ _=>cbv
 have hl:=zhv (d:=e)
 by_cases hs5:s < 5
 case neg =>
  obtain rfl:s=5:=by omega
  rw[pi_end] at h5;(refine Qb ?_;intros);unfold zaS;(refine Gw1 @zS.eq_1 ?_;intros);rw[←h5];exact⟨_,_,1,(Ent.tabB [(0,0,0)] [] rfl rfl rfl Qh Qh),rfl,rfl,rfl⟩
 (refine Qb ?_;intros)
 refine zd (fun x:Nat=>([(0,.own 0 0 g 0 d.size),(1,.int .i64 a),(2,.int .i64 b),(7,.int .i64 x),(8,.int .i64 s)],[(0,.row 1 (rW e) g)])) 1
  (fun x=>i≤x∧x≤b∧scanSorted ltInt e b x=scanSorted ltInt e b i) (fun x=>b - x) i ⟨Wa _,h3,rfl⟩ (Ent.tabB [(0,0,0)] [] rfl rfl rfl Qh Qh) ?_
 rintro k ⟨k1,k2,k3⟩ wf2
 unfold zaM;conv in dcC _ _=>cbv
 by_cases hkb:k < b
 case neg =>
  obtain rfl:k=b:=by omega
  rw[scanSorted_stop ltInt e k k (Wc hkb)] at k3;rw[pi_true ltInt a k s i e hs5 k3.symm] at h5;(refine Qb ?_;intros)
  unfold zad;conv in dcC _ _=>cbv
  (refine Gw3 @dT @dF @zS.eq_1 ?_;intros);rw[←h5];exact⟨_,_,1,(Ent.tabB [(0,0,0)] [] rfl rfl rfl Qh Qh),rfl,rfl,rfl⟩
 have ek:((k:Int) - 1).toNat=k - 1:=by omega
 have gk:=za4 (d:=e) (i:=k) (by omega);have gk1:=za4 (d:=e) (i:=k - 1) (by omega);(refine Gw7 @dT @dF hl h4 ek gk gk1 ?_;intros);refine zG (zf (ze2 _ _) rfl) ?_;cases hc:ltInt e[k]! e[k - 1]!
 case false =>rw[scanSorted_go ltInt e b k hkb hc] at k3;(refine Qb ?_;intros);exact⟨k+1,⟨by omega,by omega,k3⟩,by omega,(Ent.tabB [(0,0,0)] [] rfl rfl rfl Qh Qh)⟩
 rw[scanSorted_stop ltInt e b k (Wd hc)] at k3;(refine Qb ?_;intros)
 unfold zad;conv in dcC _ _=>cbv
 by_cases h50:b - a < 50
 · rw[pi_short ltInt a b s i e hs5 (by rw[←k3];omega) h50] at h5;(refine Gw3 @dT @dF @zS.eq_1 ?_;intros);rw[←h5];exact⟨_,_,1,(Ent.tabB [(0,0,0)] [] rfl rfl rfl Qh Qh),rfl,rfl,rfl⟩
 rw[pi_go ltInt a b s i k e hs5 k3.symm (by omega) h50] at h5
 have hsw:(swp e k (k - 1)).size=d.size:=by rw[zb3];exact h4
 (refine Gw8 @dT @dF hl h4 ek gk gk1 @m9S ?_;intros)
 all_goals rw[zgG]
 clear hl gk gk1 hc k3 wf wf2;generalize swp e k (k - 1)=e1 at h5 hsw
 have ek1:((k:Int) - 1)=((k - 1:Nat):Int):=by omega
 by_cases hka:2≤k - a
 case' neg =>
  have hfd:fixDown ltInt a k e1=e1:=by unfold fixDown;rw[if_neg (by omega)]
  rw[hfd] at h5;have m2:=hsw;clear hfd hsw;generalize e1=f at h5 m2 ⊢;(refine Qb ?_;intros)
 case' pos =>
  have hfd:fixDown ltInt a k e1=shiftDown ltInt (k - 1) e1:=by unfold fixDown;rw[if_pos hka]
  (refine Gw3 @dT @dF ek1 ?_;intros)
  refine zd (fun x:Nat × Array Int=>([(0,.own 0 0 g 0 d.size),(1,.int .i64 a),(2,.int .i64 b),(7,.int .i64 k),(8,.int .i64 s),(9,.int .i64 x.1)],[(0,.row 1 (rW x.2) g)])) 1
   (fun x=>x.1≤k - 1∧x.2.size=d.size∧shiftDown ltInt x.1 x.2=shiftDown ltInt (k - 1) e1) (fun x=>x.1) (k - 1,e1) ⟨Wa _,hsw,rfl⟩ (Ent.tabB [(0,0,0)] [] rfl rfl rfl Qh Qh) ?_
  rintro⟨j,f⟩ ⟨m1,m2,m3⟩ wf3;simp only at m1 m2 m3
  unfold zaN;conv in dcC _ _=>cbv
  by_cases hj:1≤j
  case' pos =>
   have ej:((j:Int) - 1).toNat=j - 1:=by omega
   have hl:=zhv (d:=f);have gj:=za4 (d:=f) (i:=j) (by omega);have gj1:=za4 (d:=f) (i:=j - 1) (by omega);(refine Gw7 @dT @dF hl m2 ej gj gj1 ?_;intros);refine zG (zf (ze2 _ _) rfl) ?_;cases hc:ltInt f[j]! f[j - 1]!
   case true =>
    rw[shiftDown_go ltInt j f hj hc] at m3;(refine Gw8 @dT @dF hl m2 ej gj gj1 @m9S ?_;intros)
    all_goals rw[zgG]
    all_goals exact⟨(j - 1,swp f j (j - 1)),⟨by simp only;omega,by simp only;rw[zb3];exact m2,m3⟩,by simp only;omega,(Ent.tabB [(0,0,0)] [] rfl rfl rfl Qh Qh)⟩
   rw[shiftDown_stop ltInt j f (Wd hc),←hfd] at m3;clear hc hl gj gj1 ej;(refine Qb ?_;intros)
  case' neg =>
   rw[shiftDown_stop ltInt j f (Wc (by omega)),←hfd] at m3;(refine Qb ?_;intros)
  all_goals clear hj hfd hsw wf3 m1
  all_goals rw[←m3] at h5
  all_goals clear m3
 all_goals
  unfold zaU;conv in dcC _ _=>cbv
  rcases Wj (b - k) 2 with hbk|hbk
  ·
   have hfu:fixUp ltInt b k f=f:=by unfold fixUp;rw[if_neg (by omega)]
   rw[hfu] at h5
   first
   | (exfalso;omega)
   | (
     (refine Qb ?_;intros)
     unfold zaf;conv in dcC _ _=>cbv
     (refine Qb ?_;intros)
     exact⟨(s+1,k,f),⟨by simp only;omega,by simp only;omega,by simp only;omega,m2,h5⟩,by simp only;omega,(Ent.tabB [(0,0,0)] [] rfl rfl rfl Qh Qh)⟩)
  have hfu:fixUp ltInt b k f=shiftUp ltInt b (k+1) f:=by unfold fixUp;rw[if_pos hbk]
  (refine Qb ?_;intros)
  refine zd (fun x:Nat × Array Int=>([(0,.own 0 0 g 0 d.size),(1,.int .i64 a),(2,.int .i64 b),(7,.int .i64 k),(8,.int .i64 s),(10,.int .i64 x.1)],[(0,.row 1 (rW x.2) g)])) 1
   (fun x=>k+1≤x.1∧x.1≤b∧x.2.size=d.size∧shiftUp ltInt b x.1 x.2=shiftUp ltInt b (k+1) f) (fun x=>b - x.1) (k+1,f) ⟨Wa _,by simp only;omega,m2,rfl⟩ (Ent.tabB [(0,0,0)] [] rfl rfl rfl Qh Qh) ?_
  rintro⟨j,f2⟩ ⟨n1,n2,n3,n4⟩ wf4;simp only at n1 n2 n3 n4
  unfold zaP;conv in dcC _ _=>cbv
  by_cases hj:j < b
  case' pos =>
   have ej:((j:Int) - 1).toNat=j - 1:=by omega
   have hl:=zhv (d:=f2);have gj:=za4 (d:=f2) (i:=j) (by omega);have gj1:=za4 (d:=f2) (i:=j - 1) (by omega);(refine Gw7 @dT @dF hl n3 ej gj gj1 ?_;intros);refine zG (zf (ze2 _ _) rfl) ?_;cases hc:ltInt f2[j]! f2[j - 1]!
   case true =>
    rw[shiftUp_go ltInt b j f2 hj hc] at n4;(refine Gw8 @dT @dF hl n3 ej gj gj1 @m9S ?_;intros)
    all_goals rw[zgG]
    all_goals exact⟨(j+1,swp f2 j (j - 1)),⟨by simp only;omega,by simp only;omega,by simp only;rw[zb3];exact n3,n4⟩,by simp only;omega,(Ent.tabB [(0,0,0)] [] rfl rfl rfl Qh Qh)⟩
   rw[shiftUp_stop ltInt b j f2 (Wd hc),←hfu] at n4;(refine Qb ?_;intros)
  case' neg =>
   rw[shiftUp_stop ltInt b j f2 (Wc hj),←hfu] at n4;(refine Qb ?_;intros)
  all_goals rw[←n4] at h5
  all_goals unfold zaf;conv in dcC _ _=>cbv
  all_goals (refine Qb ?_;intros;try with_reducible exact trivial)
  all_goals exact⟨(s+1,k,f2),⟨by simp only;omega,by simp only;omega,by simp only;omega,n3,h5⟩,by simp only;omega,(Ent.tabB [(0,0,0)] [] rfl rfl rfl Qh Qh)⟩
theorem zkW{n:Int}(h1:0≤n)(h2:n≤18446744073709551615):IntKind.u64.wrap n=n:=IntWalk.u64_in n ⟨h1,h2⟩
theorem zEN{n:Int}(h1:0≤n)(h2:n≤255):IntKind.u8.wrap n=n:=IntWalk.u8_in n ⟨h1,h2⟩
def lenB(n:Nat):Nat:=zso len8 n
theorem zDu:(List.range 256).all (fun n=>Nat.ble (lenB n) 8&&(Nat.beq n 0||Nat.ble (2 ^ lenB n) (2 * n)))=true:=by kernel_rfl
theorem zs5{n:Nat}(h:n < 256):lenB n≤8∧(1≤n→2 ^ lenB n≤2 * n):=by
 have:=List.all_eq_true.1 zDu n (List.mem_range.2 h);rw[Bool.and_eq_true,Bool.or_eq_true] at this;refine⟨WB this.1,fun h1=>?_⟩
 rcases this.2 with h2|h2
 · have:=Nat.eq_of_beq_eq_true h2;omega
 · exact WB h2
theorem zzf:ByteArray.size len8=256:=by decide
theorem zDq(n:Nat)(hn:n < 256):zz Tryz.prog zgX [.int .u64 n] (·=.int .i64 (lenB n)):=by
 refine fn_x zn2 rfl ?_;unfold zjc;have hB:=hBig;have e1:((n:Int)).toNat=n:=rfl;have hb:=(zs5 hn).1;unfold lenB at hb ⊢
 (repeat first|simp(disch:=try exact dis1) only[evD,Nat.reduceBEq,Nat.reduceAdd,Nat.reduceLeDiff,dT,dF,zEN,zzf,Int.toNat_natCast,Int.zero_add,zjn]|with_reducible first|intro _|refine aJ ?_)
 exact⟨_,.int _ _ _,rfl⟩
theorem zD8(n:Nat)(hn:n < 256):zz Tryz.prog zgp [.int .u64 n] (·=.int .i64 (lenB n)):=by
 refine fn_x zpB rfl ?_
 unfold zlp;conv in dcC _ _=>cbv
 (refine Gw0 ?_;intros);refine zi (zf (zDq n hn) rfl) ?_;(refine Gw1 @zlk.eq_1 ?_;intros);exact⟨_,.int _ _ _,rfl⟩
theorem zyk(n:Nat)(hn:n < 256):zz Tryz.prog zdx [.int .i64 n] (·=.int .u64 ((2 ^ lenB n:Nat):Int)):=by
 refine fn_x zks rfl ?_
 unfold zfB;conv in dcC _ _=>cbv
 have hb:=(zs5 hn).1;have h1:(2:Nat) ^ lenB n≤2 ^ 8:=Nat.pow_le_pow_right (by omega) hb
 have e1:(1:Int) * 2 ^ (min (lenB n) IntKind.u64.bits)=((2 ^ lenB n:Nat):Int):=by have h2:min (lenB n) IntKind.u64.bits=lenB n:=Nat.min_eq_left (by have:IntKind.u64.bits=64:=rfl;omega);rw[h2,Int.one_mul];simp
 have h3:(((2:Nat) ^ lenB n:Nat):Int)≤256:=by exact_mod_cast h1
 have e2:IntKind.u64.wrap (((2:Nat) ^ lenB n:Nat):Int)=(((2:Nat) ^ lenB n:Nat):Int):=zkW (WC _) (Wr h3 (by decide));(refine Gw1 @zkW ?_;intros);refine zi (zf (zD8 n hn) rfl) ?_;(refine Gw4 @zkW e1 e2 @zfF.eq_1 ?_;intros);exact⟨_,.int _ _ _,rfl⟩
theorem zES(x:Int):zU Tryz.prog zdX [.ptr 0 0 0 0 0] [(0,.row 1 [[.int .u64 x]] 0)] 1
  (fun v H nx=>∃y:Int,InR .u64 y∧v=.int .u64 y∧H=[(0,.row 1 [[.int .u64 y]] 0)]∧nx=1):=by
 refine zR (fn_x zkN rfl ?_)
 unfold zfW;conv in dcC _ _=>cbv
 (refine Gw1 @zge.eq_1 ?_;intros);rename_i hr;exact⟨_,_,1,(Ent.tabB [(0,0,0)] [] rfl rfl rfl Qh Qh),_,hr,rfl,rfl,rfl⟩
theorem zBL(y:Int)(m:Nat)(h1:1≤m)(h2:m≤512):
  ∃o:Nat,o < m∧IntKind.u64.wrap ((BitVec.ofInt IntKind.u64.bits y &&& BitVec.ofInt IntKind.u64.bits ((m:Int) - 1)).toNat:Int)=(o:Int):=by
 have hz:(BitVec.ofInt IntKind.u64.bits ((m:Int) - 1)).toNat=m - 1:=by rw[BitVec.toNat_ofInt];have:(2 ^ IntKind.u64.bits:Nat)=18446744073709551616:=rfl;rw[this];omega
 have hle:(BitVec.ofInt IntKind.u64.bits y &&& BitVec.ofInt IntKind.u64.bits ((m:Int) - 1)).toNat≤m - 1:=by rw[BitVec.toNat_and,hz];exact Nat.and_le_right
 exact⟨_,by omega,zkW (WC _) (by omega)⟩
set_option maxHeartbeats 1000000 in
theorem zpK(d:Array Int)(g a b:Nat)(hab:a≤b)(hb:b≤d.size)(hs:d.size≤250):
  zU Tryz.prog zaL [.own 0 0 g 0 d.size,.int .i64 a,.int .i64 b] [(0,.row 1 (rW d) g)] 1
   (fun v H nx=>∃d',PermIn a b d d'∧v=.tup []∧H=[(0,.row 1 (rW d') g)]∧nx=1):=by
 refine zR (fn_x ze1 rfl ?_)
 unfold zbW;conv in dcC _ _=>cbv
 have hB:=hBig
 have ecast:(b:Int) - (a:Int)=((b - a:Nat):Int):=by omega
 have hq:((b - a:Nat):Int).tdiv 4=(((b - a) / 4:Nat):Int):=by rw[Wt (by omega)];omega
 have hq1:(b - a) / 4 * 4≤b - a:=WA _ _
 have hq2:8≤b - a→2≤(b - a) / 4:=fun h=>by omega
 generalize (b - a) / 4=q at hq hq1 hq2
 rcases Wj (b - a) 8 with h8|h8
 · (refine Gw4 ecast @dT @dF @zaF.eq_1 ?_;intros);exact⟨_,_,1,(Ent.tabB [(0,0,0)] [] rfl rfl rfl Qh Qh),d,permIn_refl _ _ _,rfl,rfl,rfl⟩
 have hn:=zyk (b - a) (by omega);have hm1:=(zs5 (n:=b - a) (by omega)).2 (by omega);have hm0:1≤2 ^ lenB (b - a):=Nat.one_le_two_pow;generalize 2 ^ lenB (b - a)=m at hn hm1 hm0;have hq3:=hq2 h8
 have ei:(a:Int)+(q:Int) * 2 - 1=((a+q * 2 - 1:Nat):Int):=by omega
 have ej:(a:Int)+(q:Int) * 2+1=((a+q * 2+1:Nat):Int):=by omega
 (refine Gw6 ecast hq ei @dT @dF @zkW ?_;intros);refine zi (zf hn rfl) ?_;(refine Gw5 ecast hq ei @dT @dF ?_;intros)
 refine zd (fun x:Nat × Int × Array Int=>([(0,.own 0 0 g 0 d.size),(1,.int .i64 a),(6,.int .i64 (b - a:Nat)),(7,.ptr 1 0 0 0 0),(8,.int .u64 m),(9,.int .i64 x.1)],[(0,.row 1 (rW x.2.2) g),(1,.row 1 [[.int .u64 x.2.1]] 0)])) 2
  (fun x=>a+q * 2 - 1≤x.1∧x.1≤a+q * 2+2∧x.2.2.size=d.size∧PermIn a b d x.2.2) (fun x=>a+q * 2+2 - x.1) (a+q * 2 - 1,((b - a:Nat):Int),d)
  ⟨Wa _,by simp only;omega,rfl,permIn_refl _ _ _⟩ (Ent.tabB [(0,0,0),(1,1,0)] [] rfl rfl rfl Qh Qh) ?_
 rintro⟨i,r,e⟩ ⟨h1,h2,h3,h4⟩ wf;simp only at h1 h2 h3 h4
 unfold zbB;conv in dcC _ _=>cbv
 have hl:=zhv (d:=e)
 by_cases hi:i≤a+q * 2+1
 ·
  (refine Gw5 ecast hq ej @dT @dF ?_;intros);refine zx [(0,1,0)] 1 _ (zES r) rfl rfl fin9 fin9 ?_;rintro v H nx ⟨y,hy,rfl,rfl,rfl⟩;obtain⟨o,ho,heo⟩:=zBL y m hm0 (by omega)
  obtain⟨o',ho',hoo⟩:∃o',o' < b - a∧(o < b - a∧o'=o∨¬o < b - a∧o'=o - (b - a)):=by
   by_cases h:o < b - a
   · exact⟨o,h,.inl ⟨h,rfl⟩⟩
   · exact⟨o - (b - a),by omega,.inr ⟨h,rfl⟩⟩
  have g0:=za4 (d:=e) (i:=i) (by omega);have g1:=za4 (d:=e) (i:=a+o') (by omega)
  have e0:((a:Int)+(o':Int)).toNat=a+o':=by omega
  have hp:=swp_permIn e a b i (a+o') (by omega) (by omega) (by omega) (by omega) (by omega);(refine Gw4 @zd9 @zk9 @zkW heo ?_;intros)
  rcases hoo with ⟨h,rfl⟩ | ⟨h,rfl⟩
  ·
   (refine Gw9 ecast @dT @dF hl h3 g0 g1 e0 @m9S ?_;intros)
   all_goals rw[zgG]
   all_goals exact⟨(i+1,y,swp e i (a+o')),⟨by simp only;omega,by simp only;omega,by simp only;rw[zb3];exact h3,permIn_trans _ _ _ _ _ h4 hp⟩,by simp only;omega,(Ent.tabB [(0,0,0),(1,1,0)] [] rfl rfl rfl Qh Qh)⟩
  ·
   have es:(o:Int) - ((b - a:Nat):Int)=((o - (b - a):Nat):Int):=by omega
   (refine Gw10 ecast es @dT @dF hl h3 g0 g1 e0 @m9S ?_;intros)
   all_goals rw[zgG]
   all_goals exact⟨(i+1,y,swp e i (a+(o - (b - a)))),⟨by simp only;omega,by simp only;omega,by simp only;rw[zb3];exact h3,permIn_trans _ _ _ _ _ h4 hp⟩,by simp only;omega,(Ent.tabB [(0,0,0),(1,1,0)] [] rfl rfl rfl Qh Qh)⟩
 · (refine Gw6 ecast hq ej @dT @dF @zaF.eq_1 ?_;intros);exact⟨_,_,1,(Ent.tabB [(0,0,0)] [] rfl rfl rfl Qh Qh),e,h4,rfl,rfl,rfl⟩
def PInv(a0 b0:Nat)(d0:Array Int)(a b:Nat)(e:Array Int):Prop :=
 a≤b∧b≤d0.size∧b - a≤b0 - a0∧e.size=d0.size∧Below ltInt a b e∧∀R,PermIn a b e R→SortedIn ltInt a b R→PermIn a0 b0 d0 R∧SortedIn ltInt a0 b0 R
theorem PInv.perm{a0 b0:Nat}{d0:Array Int}{a b:Nat}{e e1:Array Int}(h:PInv a0 b0 d0 a b e)(hp:PermIn a b e e1):PInv a0 b0 d0 a b e1:=by obtain⟨h1,h2,h3,h4,h5,h6⟩:=h;exact⟨h1,h2,h3,by rw[hp.1];exact h4,h5.perm (by omega) hp,fun R hR hs=>h6 R (permIn_trans _ _ _ _ _ hp hR) hs⟩
theorem Qk{p:Prop}(h:p:=by(try simp only[evWB,Nat.reduceBEq,Nat.reduceAdd,Nat.reduceSub,Nat.reduceLeDiff,Nat.reduceLT,implies_true,Int.natCast_one])<;>exact fin2):p:=h
set_option maxHeartbeats 4000000 in
theorem zxP:∀(N:Nat)(d:Array Int)(g a b lim:Nat),b - a < N→a≤b→b≤d.size→d.size≤250→lim≤1000→Below ltInt a b d →
  zU Tryz.prog zaj [.own 0 0 g 0 d.size,.int .i64 a,.int .i64 b,.int .i64 lim] [(0,.row 1 (rW d) g)] 1
   (fun v H nx=>∃d',(PermIn a b d d'∧SortedIn ltInt a b d')∧v=.tup []∧H=[(0,.row 1 (rW d') g)]∧nx=1):=by
 intro N
 induction N with
 | zero=>intro d g a b lim h;omega
 | succ N ih =>
 intro d g a0 b0 lim0 hN hab0 hb0 hs hlim hB0;refine zR (fn_x zgK rfl ?_)
 unfold zdc;conv in dcC _ _=>cbv
 have hB:=hBig;(refine Qb ?_;intros)
 refine zd (fun x:Nat × Nat × Nat × Bool × Bool × Array Int=>([(0,.own 0 0 g 0 d.size),(1,.int .i64 x.1),(2,.int .i64 x.2.1),(3,.int .i64 x.2.2.1),(8,.bool x.2.2.2.1),(9,.bool x.2.2.2.2.1)],[(0,.row 1 (rW x.2.2.2.2.2) g)])) 1
  (fun x=>x.2.2.1≤1000∧PInv a0 b0 d x.1 x.2.1 x.2.2.2.2.2) (fun x=>x.2.1 - x.1) (a0,b0,lim0,true,true,d) ⟨hlim,hab0,hb0,Wa _,rfl,hB0,fun R h1 h2=>⟨h1,h2⟩⟩ (Ent.tabB [(0,0,0)] [] rfl rfl rfl Qh Qh) ?_
 rintro⟨a,b,lim,wb,wp,e⟩ ⟨hl0,hI⟩ wf;simp only at hl0 hI
 unfold zcE;conv in dcC _ _=>cbv
 have ecast:(b:Int) - (a:Int)=((b - a:Nat):Int):=by have:=hI.1;omega
 have hbd:a≤b∧b≤250:=by have:=hI.1;have:=hI.2.1;omega
 by_cases h12:b - a≤12
 · obtain⟨i1,i2,i3,i4,i5,i6⟩:=hI;have h:=zpT e g a b i1 (by omega) (by omega);have hp:=insertionSort_holds swo_ltInt e a b i1 (by omega);rw[i4] at h;(refine Gw3 ecast @dT @dF ?_;intros);refine zx [(0,0,0)] 1 _ (h) rfl rfl fin9 fin9 ?_;rintro v H nx ⟨rfl,rfl,rfl⟩;(refine Gw2 @zd9 @zaA.eq_1 ?_;intros);exact⟨_,_,1,(Ent.tabB [(0,0,0)] [] rfl rfl rfl Qh Qh),_,i6 _ hp.1 hp.2,rfl,rfl,rfl⟩
 by_cases hz:lim=0
 · obtain⟨i1,i2,i3,i4,i5,i6⟩:=hI;have h:=zwr e g a b i1 (by omega) (by omega);have hp:=heapSort_holds swo_ltInt e a b i1 (by omega);rw[i4] at h;(refine Gw3 ecast @dT @dF ?_;intros);refine zx [(0,0,0)] 1 _ (h) rfl rfl fin9 fin9 ?_;rintro v H nx ⟨rfl,rfl,rfl⟩;(refine Gw2 @zd9 @zaA.eq_1 ?_;intros);exact⟨_,_,1,(Ent.tabB [(0,0,0)] [] rfl rfl rfl Qh Qh),_,i6 _ hp.1 hp.2,rfl,rfl,rfl⟩
 (refine Gw3 ecast @dT @dF ?_;intros)
 refine zkI (fun x:Nat × Array Int=>([(0,.own 0 0 g 0 d.size),(1,.int .i64 a),(2,.int .i64 b),(3,.int .i64 x.1),(8,.bool wb),(9,.bool wp),(10,.int .i64 (b - a:Nat))],[(0,.row 1 (rW x.2) g)])) 1
  (fun x=>x.1≤1000∧PInv a0 b0 d a b x.2) ?_ ?_
 ·
  cases wb with
  |
   true =>
   (refine Qb ?_;intros);exact⟨(lim,e),⟨hl0,hI⟩,(Ent.tabB [(0,0,0)] [] rfl rfl rfl Qh Qh)⟩
  |
   false =>
   have h:=zpK e g a b hI.1 (by rw[hI.2.2.2.1];exact hI.2.1) (by rw[hI.2.2.2.1];exact hs);rw[hI.2.2.2.1] at h
   have el:(lim:Int) - 1=((lim - 1:Nat):Int):=by omega
   (refine Qb ?_;intros);refine zx [(0,0,0)] 1 _ (h) rfl rfl fin9 fin9 ?_;rintro v H nx ⟨e1,hp,rfl,rfl,rfl⟩;(refine Gw2 @zd9 el ?_;intros);exact⟨(lim - 1,e1),⟨by simp only;omega,hI.perm hp⟩,(Ent.tabB [(0,0,0)] [] rfl rfl rfl Qh Qh)⟩
 clear hI hz hl0 wf;rintro⟨l1,e1⟩ ⟨hl1,hI⟩ wf;simp only at hl1 hI
 unfold zcG;conv in dcC _ _=>cbv
 have hc:=zrn e1 g a b (by omega) (by rw[hI.2.2.2.1];exact hI.2.1) (by rw[hI.2.2.2.1];omega);rw[hI.2.2.2.1] at hc;(refine Qb ?_;intros);refine zx [(0,0,0)] 1 _ (hc) rfl rfl fin9 fin9 ?_;rintro v H nx ⟨p,h,hp1,hp2,hh,rfl,rfl,rfl⟩;(refine Gw1 @zd9 ?_;intros)
 refine zkI (fun x:Nat × Nat × Array Int=>([(0,.own 0 0 g 0 d.size),(1,.int .i64 a),(2,.int .i64 b),(3,.int .i64 l1),(8,.bool wb),(9,.bool wp),(10,.int .i64 (b - a:Nat)),(11,.int .i64 x.1),(12,.int .i64 x.2.1)],[(0,.row 1 (rW x.2.2) g)])) 1
  (fun x=>a≤x.1∧x.1 < b∧x.2.1≤2∧PInv a0 b0 d a b x.2.2) ?_ ?_
 ·
  by_cases h2:h=2
  ·
   subst h2;have hr:=zqu e1 g a b (by omega) (by rw[hI.2.2.2.1];exact hI.2.1) (by rw[hI.2.2.2.1];omega);rw[hI.2.2.2.1] at hr;have hp:=reverseRange_holds e1 a b hI.1 (by rw[hI.2.2.2.1];exact hI.2.1)
   have ep:(b:Int) - 1 - ((p:Int) - (a:Int))=((b - 1 - (p - a):Nat):Int):=by omega
   have hB2:=hI.2.1;(refine Qb ?_;intros);refine zx [(0,0,0)] 1 _ (hr) rfl rfl fin9 fin9 ?_;rintro v H nx ⟨rfl,rfl,rfl⟩;(refine Gw2 @zd9 ep ?_;intros);exact⟨(b - 1 - (p - a),1,reverseRange e1 a b),⟨by simp only;omega,by simp only;omega,by simp only;omega,hI.perm hp⟩,(Ent.tabB [(0,0,0)] [] rfl rfl rfl Qk Qk)⟩
  · (refine Qb ?_;intros);exact⟨(p,h,e1),⟨hp1,hp2,hh,hI⟩,(Ent.tabB [(0,0,0)] [] rfl rfl rfl Qh Qh)⟩
 clear hI hc hp1 hp2 hh wf p h;rintro⟨p,h,e2⟩ ⟨hp1,hp2,hh,hI⟩ wf;simp only at hp1 hp2 hh hI
 unfold zcI;conv in dcC _ _=>cbv
 (refine Gw0 ?_;intros)
 refine zkI (fun x:Array Int=>([(0,.own 0 0 g 0 d.size),(1,.int .i64 a),(2,.int .i64 b),(3,.int .i64 l1),(8,.bool wb),(9,.bool wp),(10,.int .i64 (b - a:Nat)),(11,.int .i64 p)],[(0,.row 1 (rW x) g)])) 1
  (fun x=>PInv a0 b0 d a b x) ?_ ?_
 ·
  have h3:=zkx e2 g a b (by omega) (by rw[hI.2.2.2.1];exact hI.2.1) (by rw[hI.2.2.2.1];omega);rw[hI.2.2.2.1] at h3;have hp:=partialInsertionSort_holds swo_ltInt e2 a b (by omega) (by rw[hI.2.2.2.1];exact hI.2.1) hI.2.2.2.2.1
  cases wb with
  | false=>(refine Qb ?_;intros);exact⟨e2,hI,(Ent.tabB [(0,0,0)] [] rfl rfl rfl Qh Qh)⟩
  | true =>
  cases wp with
  | false=>(refine Qb ?_;intros);exact⟨e2,hI,(Ent.tabB [(0,0,0)] [] rfl rfl rfl Qh Qh)⟩
  | true =>
  by_cases h1:h=1
  ·
   subst h1;(refine Qb ?_;intros);refine zx [(0,0,0)] 1 _ (h3) rfl rfl fin9 fin9 ?_;rintro v H nx ⟨rfl,rfl,rfl⟩;cases hpi:(partialInsertionSort ltInt e2 a b).2
   · (refine Gw1 @zd9 ?_;intros);exact⟨(partialInsertionSort ltInt e2 a b).1,hI.perm hp.1,(Ent.tabB [(0,0,0)] [] rfl rfl rfl Qh Qh)⟩
   · (refine Gw2 @zd9 @zaA.eq_1 ?_;intros);exact⟨_,_,1,(Ent.tabB [(0,0,0)] [] rfl rfl rfl Qh Qh),_,hI.2.2.2.2.2 _ hp.1 (hp.2 hpi),rfl,rfl,rfl⟩
  · (refine Qb ?_;intros);exact⟨e2,hI,(Ent.tabB [(0,0,0)] [] rfl rfl rfl Qh Qh)⟩
 clear hI hh wf h;rintro e3 hI wf
 unfold zcH;conv in dcC _ _=>cbv
 obtain⟨i1,i2,i3,i4,i5,i6⟩:=hI;have hl:=zhv (d:=e3);have gp:=za4 (d:=e3) (i:=p) (by omega)
 rcases WD a with ha|ha
 case' inr =>
  have ea:((a:Int) - 1).toNat=a - 1:=by omega
  have ga:=za4 (d:=e3) (i:=a - 1) (by omega);(refine Gw7 @dT @dF hl i4 ea ga gp ?_;intros);refine zG (zf (ze2 _ _) rfl) ?_;cases hc:ltInt e3[a - 1]! e3[p]!
  case false =>have hpe:=zoK e3 g a b p hp1 hp2 (by omega) (by omega);obtain⟨r1,r2,r3,r4,r5⟩:=round_eq swo_ltInt (partitionEqual_holds ltInt) ha hp1 hp2 (by omega) i5 hc (Prod.eta (partitionEqual ltInt e3 a b p)).symm;rw[i4] at hpe;(refine Qb ?_;intros);refine zx [(0,0,0)] 1 _ (hpe) rfl rfl fin9 fin9 ?_;rintro v H nx ⟨rfl,rfl,rfl⟩;(refine Gw1 @zd9 ?_;intros);exact⟨((partitionEqual ltInt e3 a b p).1,b,l1,wb,wp,(partitionEqual ltInt e3 a b p).2),⟨hl1,r2,i2,by simp only;omega,by simp only;omega,r4,fun R h1 h2=>by obtain⟨q1,q2⟩:=r5 R h1 h2;exact i6 R q1 q2⟩,by simp only;omega,(Ent.tabB [(0,0,0)] [] rfl rfl rfl Qh Qh)⟩
  clear hc;(refine Qb ?_;intros)
 case' inl =>
  (refine Qb ?_;intros)
 all_goals
  have hpa:=zuB e3 g a b p hp1 hp2 (by omega) (by omega);rw[i4] at hpa;refine zx [(0,0,0)] 1 _ (hpa) rfl rfl fin9 fin9 ?_;rintro v H nx ⟨rfl,rfl,rfl⟩;obtain⟨r1,r2,r3,r4,r5,r6,r7⟩:=round_part swo_ltInt (partition_holds ltInt) hp1 hp2 (by omega) i5 (show partition ltInt e3 a b p=((partition ltInt e3 a b p).1,(partition ltInt e3 a b p).2.1,(partition ltInt e3 a b p).2.2) from rfl);clear hpa;generalize (partition ltInt e3 a b p).2.2=d4 at r3 r4 r5 r6 r7 ⊢;generalize (partition ltInt e3 a b p).2.1=ap at ⊢;generalize (partition ltInt e3 a b p).1=mid at r1 r2 r4 r5 r6 r7 ⊢
  have e8:((b - a:Nat):Int).tdiv 8=(((b - a) / 8:Nat):Int):=by rw[Wt (by omega)];omega
  have h8:(b - a) / 8≤b - a:=Nat.div_le_self _ _;generalize (b - a) / 8=q8 at e8 h8
  rcases Wj (mid - a) (b - mid) with hlr|hlr
  ·
   have h:=ih d4 g a mid l1 (by omega) r1 (by omega) (by omega) hl1 r4;rw[r3,i4] at h;(refine Gw4 @zd9 e8 @dT @dF ?_;intros);refine zx [(0,0,0)] 1 _ (h) rfl rfl fin9 fin9 ?_;rintro v H nx ⟨L,⟨q1,q2⟩,rfl,rfl,rfl⟩;obtain⟨s1,s2⟩:=r6 L q1 q2
   have em:(mid:Int)+1=((mid+1:Nat):Int):=by omega
   (refine Gw2 @zd9 em ?_;intros);exact⟨(mid+1,b,l1,decide ((q8:Int)≤(mid:Int) - (a:Int)),ap,L),⟨hl1,by simp only;omega,i2,by simp only;omega,by rw[q1.1,r3];exact i4,s1,fun R h1 h2=>by obtain⟨t1,t2⟩:=s2 R h1 h2;exact i6 R t1 t2⟩,by simp only;omega,(Ent.tabB [(0,0,0)] [] rfl rfl rfl Qh Qh)⟩
  ·
   have h:=ih d4 g (mid+1) b l1 (by omega) (by omega) (by omega) (by omega) hl1 r5;rw[r3,i4] at h
   have em:(mid:Int)+1=((mid+1:Nat):Int):=by omega
   (refine Gw5 @zd9 e8 em @dT @dF ?_;intros);refine zx [(0,0,0)] 1 _ (h) rfl rfl fin9 fin9 ?_;rintro v H nx ⟨L,⟨q1,q2⟩,rfl,rfl,rfl⟩;obtain⟨s1,s2⟩:=r7 L q1 q2;(refine Gw1 @zd9 ?_;intros);exact⟨(a,mid,l1,decide ((q8:Int)≤(b:Int) - (mid:Int)),ap,L),⟨hl1,r1,by simp only;omega,by simp only;omega,by rw[q1.1,r3];exact i4,s1,fun R h1 h2=>by obtain⟨t1,t2⟩:=s2 R h1 h2;exact i6 R t1 t2⟩,by simp only;omega,(Ent.tabB [(0,0,0)] [] rfl rfl rfl Qh Qh)⟩
theorem ztP{zs:List Int}{d':Array Int}(h1:PermIn 0 zs.length zs.toArray d')(h2:SortedIn ltInt 0 zs.length d'):d'.toList=zeF zs:=by
 have hs:zs.toArray.size=zs.length:=by simp
 have:=sorted_unique_holds swo_ltInt (fun x y h1 h2=>by simp only[ltInt,decide_eq_false_iff_not] at h1 h2;omega) zs.toArray d' (by rw[hs];exact h1) (by rw[hs];exact h2);rw[this]
 have e:(fun x y:Int => !ltInt y x)=fun x y=>decide (x≤y):=by
  funext x y
  simp only[ltInt]
  by_cases h:y < x
  ·
   have:¬x≤y:=by omega
   simp[h,this]
  ·
   have:x≤y:=by omega
   simp[h,this]
 rw[e];exact zma (.refl _)
theorem zDx(zs:List Int)(g:Nat)(hs:zs.length≤250):
  zU Tryz.prog zcu [.own 0 0 g 0 zs.length] [(0,.row 1 (zs.map cW) g)] 1
   (fun v H nx=>v=.tup []∧H=[(0,.row 1 ((zeF zs).map cW) g)]∧nx=1):=by
 refine zR (fn_x zh5 rfl ?_)
 unfold zd7;conv in dcC _ _=>cbv
 have hB:=hBig;have hb:=(zs5 (n:=zs.length) (by omega)).1;have h:=zxP (zs.length+1) zs.toArray g 0 zs.length (lenB zs.length) (by omega) (Nat.zero_le _) (by simp) (by simpa using hs) (by omega) (Wc rfl)
 have e1:rW zs.toArray=zs.map cW:=by simp[rW]
 rw[e1,List.size_toArray] at h;(refine Gw1 @zkW ?_;intros);refine zi (zf (zD8 zs.length (by omega)) rfl) ?_;(refine Gw0 ?_;intros);refine zx [(0,0,0)] 1 _ (h) rfl rfl (Gin6_1 @Int.natCast_zero) (Gin6_1 @Int.natCast_zero) ?_;rintro v H nx ⟨d',⟨h1,h2⟩,rfl,rfl,rfl⟩;have e2:=ztP h1 h2
 have e3:rW d'=(zeF zs).map cW:=by unfold rW;rw[e2]
 (refine Gw2 @zd9 @zea.eq_1 ?_;intros);rw[e3];exact⟨_,_,1,(Ent.tabB [(0,0,0)] [] rfl rfl rfl Qh Qh),rfl,rfl,rfl⟩
end Go.Ab
namespace Go.Ab
open Go.RowKit Go.Proofs Go.Sort Go.Shelf
theorem zzL {α:Type} [Inhabited α] {w:World} {b blk off:Nat} {enc:α→Value} {d:Array α} (h:FzOk w b):FzOk (putRow enc w blk off d) b:=by
 intro c e lo hi hh;unfold putRow mapBlock at hh;simp only[WE] at hh
 by_cases hb:blk=b
 ·
  subst hb;rw[if_pos rfl] at hh
  cases ho:w.heap[blk]? with
  | none=>rw[ho] at hh;cases hh
  |
   some o =>
   rw[ho] at hh
   cases o with
   |
    cells c0 e0 f0 =>
    obtain⟨lo0,hi0⟩:=f0;simp only[Option.map_some,onCells,Option.some.injEq,Obj.cells.injEq,Prod.mk.injEq] at hh;obtain⟨rfl,rfl,rfl,rfl⟩:=hh
    rcases h c0 e0 _ _ ho with h1|h1
    · exact .inl h1
    · exact .inr (by unfold putCells;simpa using h1)
   | _=>simp[onCells] at hh
 · rw[if_neg hb] at hh;exact h c e lo hi hh
section
variable {w:World} {L:Nat→Prop} {ι:Inj} {H:AH} {nx:Nat}
theorem ztV{r q g:Nat}{zs:List Int}(hr:H.get r q=some (.row 1 (zs.map fun n=>[.int .i64 n]) g))(hlen:zs.length≤1000000):
  zU Tryz.prog zey [.own r q g 0 zs.length] H nx (fun v H' nx'=>(v,H',nx')=(.tup [],H.set r q (.row 1 ((zeF zs).map fun n=>[.int .i64 n]) g),nx)):=by
 intro w L ι vs rel hv
 obtain⟨mv,hvs,hmv⟩:∃mv,vs=#[mv]∧VR w (Lt L ι H) ι mv (.own r q g 0 zs.length):=by
  rcases vs with ⟨l⟩
  cases hv with
  | cons h1 h2=>cases h2;exact⟨_,rfl,h1⟩
 subst hvs;have hsl:(zeF zs).length=zs.length:=(zcM zs).length_eq
 cases hmv with
 |
  own _ _ _ _ _ _ a c l hl hmx hn hc ha =>
  obtain⟨l',hl',ok⟩:=rel.row _ _ _ _ _ hr;rw[hl] at hl';cases hl'
  have hsame:∀l0,ι r q g=some l0→l0=l:=fun l0 h0=>by rw[hl] at h0;cases h0;rfl
  have hsz:l.sz=1:=ok.hsz;have nil:∀{M:Nat→Prop}{ι':Inj}{w':World},VR w' M ι' (.tuple #[]) (.tup []):=.tup _ _ _ rfl (fun i v a h=>by simp at h)
  rcases WD zs.length with h0|hpos
  ·
   obtain rfl:zs=[]:=List.eq_nil_of_length_eq_zero h0
   refine(AnyM.slices_Sort_int_none zAO a c w).mono fun e w' ⟨he,hw⟩=>?_
   subst hw;have c1:Chg w' ι H r q g l w':=⟨rfl,rfl,rfl,Wa _,fun _ _ _=>rfl,fun hpos=>.inl ⟨1,_,g,l,hr,hl,hpos,rfl⟩,hsame,fun g2 l2 h2=>rel.gen r q _ _ _ hr g2 l2 h2⟩;refine⟨_,_,_,_,_,he,c1.step (.inl ⟨_,_,hr⟩) rel (rel.idx _ _ _ _ hl) (Wa _) (.mk' ok.hsz (ok.plain hmx).len hmx (ok.plain hmx).there (ok.plain hmx).fz (fun i c h=>by simp[zeF] at h) (fun i c' j a h1 h2=>by simp[zeF] at h1)),Wa _,nil,rfl⟩
  ·
   obtain rfl:=ha (by omega)
   have hoff:l.off+0 * l.sz=l.off:=by omega
   rw[hoff]
   have hcap:0 < l.cap * l.sz:=by rw[hsz];omega
   have hblk:=ok.blk_lt hcap
   have hget:∀{ys:List Int}{j:Nat},j < ys.length→(ys.toArray)[j]! = ys.getD j 0:=fun {ys j} h=>by simp[h,List.getD]
   have hin:∀j,j < zs.length→w.cell? ⟨l.block,l.off+j,none⟩=some (.int .i64 (zs.getD j 0))∧InR .i64 (zs.getD j 0):=by
    intro j hj
    have e:zs.getD j 0=zs[j]:=by simp[List.getD,hj]
    obtain⟨v,h1,_,h2⟩:=ok.holds hmx j [.int .i64 zs[j]] 0 (.int .i64 zs[j]) (by rw[Wo,We hj];rfl) rfl
    cases h2 with
    |
     int _ _ _ h3 =>
     rw[e];simp only[Nat.mul_one,Nat.add_zero] at h1;exact⟨h1,h3⟩
   have hH:Holds (Value.int .i64) w l.block l.off zs.toArray:=fun j hj=>by
    have hj':j < zs.length:=by simpa using hj
    rw[hget hj'];exact⟨(hin j hj').1,((ok.plain hmx).there j (by have:=(ok.plain hmx).len;simp only[Wf] at this;omega)).2⟩
   refine(AnyM.slices_Sort_int zAO l.block l.off c zs w hH hblk (by omega)).mono fun e w' ⟨he,n,os,hw⟩=>?_
   rw[zma (List.Perm.refl zs)] at hw
   have hcell:∀j,j < zs.length→w'.cell? ⟨l.block,l.off+j,none⟩=some (.int .i64 ((zeF zs).getD j 0)):=fun j hj=>by rw[hw,cell?_grow _ _ _ (by simpa using hblk),putRow_ahead,cell?_ahead,cell?_putRow _ _ _ _ zs.toArray _ hH (by simpa using hsl) j (by simpa [hsl] using hj),hget (by omega)]
   have hcell2:∀a:Addr,a.block < w.heap.size→(a.block≠l.block∨a.off < l.off∨l.off+zs.length≤a.off)→w'.cell? a=w.cell? a:=fun a ha hx=>by rw[hw,cell?_grow _ _ _ (by simpa using ha),putRow_ahead,cell?_ahead,cell?_putRow_other _ _ _ _ _ _ (by simpa [hsl] using hx)]
   have hfrz:∀a:Addr,a.block < w.heap.size→w'.frozen? a=w.frozen? a:=fun a ha=>by rw[hw,frozen?_grow _ _ _ (by simpa using ha),putRow_ahead,frozen?_ahead,frozen?_putRow]
   have hheap:∀b,b < w.heap.size→b≠l.block→w'.heap[b]? = w.heap[b]? := fun b hb hne=>by rw[hw,heap_grow_old _ _ (by simpa using hb)];simp only[putRow,mapBlock,heap_ahead,WE];rw[if_neg (Ne.symm hne)]
   have c1:Chg w ι H r q g l w':=⟨by rw[hw];rfl,by rw[hw];rfl,by rw[hw];rfl,by rw[hw];simp,fun b hb hn=>hheap b hb (fun hbe=>hn ⟨1,_,g,l,hr,hl,hcap,hbe.symm⟩),fun hpos=>.inl ⟨1,_,g,l,hr,hl,hpos,rfl⟩,hsame,fun g2 l2 h2=>rel.gen r q _ _ _ hr g2 l2 h2⟩
   have hfz:FzOk w' l.block:=by have h1:FzOk (putRow (Value.int .i64) (Sort.ahead w n) l.block l.off (zeF zs).toArray) l.block:=zzL (((ok.plain hmx).fz (by rw[←hsz];exact hcap)).of_heap rfl);rw[hw];exact h1.of_heap (heap_grow_old _ _ (by simpa using hblk))
   refine⟨_,_,_,_,_,he,c1.step (.inl ⟨_,_,hr⟩) rel (rel.idx _ _ _ _ hl) (Wa _) (.mk' ok.hsz (by have:=(ok.plain hmx).len;simp only[Wf] at this ⊢;omega) hmx (fun k hk=>?_) (fun _=>hfz) (fun i c h=>?_) (fun i c' j a h1 h2=>?_)),Wa _,nil,rfl⟩
   ·
    rw[hfrz _ hblk];refine⟨?_,((ok.plain hmx).there k hk).2⟩
    by_cases hk2:k < zs.length
    · rw[hcell k hk2];rfl
    · rw[hcell2 _ hblk (.inr (.inr (by simp only;omega)))];exact((ok.plain hmx).there k hk).1
   · rw[Wo] at h;obtain⟨z,_,rfl⟩:=WF.1 h;rfl
   ·
    rw[Wo] at h1;obtain⟨z,hz,rfl⟩:=WF.1 h1
    match j with
    |
     0 =>
     cases h2
     have hi:i < zs.length:=by rw[←hsl];exact(List.getElem?_eq_some_iff.1 hz).1
     refine⟨.int .i64 z,?_,rfl,.int _ _ _ ?_⟩
     · simp only[Nat.mul_one,Nat.add_zero];rw[hcell i hi,Wg,hz];rfl
     · obtain⟨k,hk,hke⟩:=List.mem_iff_getElem.1 ((zcM zs).mem_iff.1 (List.mem_of_getElem? hz));have:=(hin k hk).2;simp only[List.getD,We hk,Option.getD_some] at this;rw[hke] at this;exact this
    | j+1=>cases h2
end
end Go.Ab
namespace Go.Ab
open Go.RowKit Go.Proofs
def filR(p:Nat→Bool)(n:Nat):List Nat:=(List.range n).filter p
theorem zwN{p:Nat→Bool}{n:Nat}(h:p n=true):filR p (n+1)=filR p n++[n]:=by unfold filR;rw[List.range_succ,WG];simp[h]
theorem zxK{p:Nat→Bool}{n:Nat}(h:p n=false):filR p (n+1)=filR p n:=by unfold filR;rw[List.range_succ,WG];simp[h]
theorem zz2{p:Nat→Bool}{n:Nat}:(filR p n).length≤n:=by unfold filR;exact Nat.le_trans (List.length_filter_le _ _) (by simp)
theorem zs8{H H2:AH}{σ:Nat→Nat→Option (Nat × Nat × Nat)}{D:Nat→Nat→Prop}{t:Bool}{r q g:Nat}{l m:List Int}(hD:D r q)(hg:H.get r q=some (.row 1 ((l++m).map cI) g))(hb:l.length≤big):
  Vw H H2 σ D t (.own r q g 0 l.length) (za l):=by
 refine .frz t r q g 0 l.length 1 ((l++m).map cI) _ hD hg hb (by simp) (fun i j hi hj=>?_)
 obtain rfl:j=0:=by omega
 rw[Nat.zero_add,zn (show i < (l++m).length by simp;omega),zn hi,List.getElem_append_left hi];exact .int _ _ _
def zfd(l:List Int)(j:Nat):Bool:=j == 0||(l.getD j 0 != l.getD (j - 1) 0)
def zZ(l:List Int)(n:Nat):List Int:=(filR (zfd l) n).map (fun j=>l.getD j 0)
def za8(l:List Int):List Int:=zZ l l.length
theorem zsq{l:List Int}{n:Nat}:(zZ l n).length≤n:=by unfold zZ;rw[Wf];exact zz2
theorem zmk{l:List Int}{j:Nat}(hj:j < l.length)(h:zfd l j=true):zZ l (j+1)=zZ l j++[l[j]]:=by unfold zZ;rw[zwN h,Wk];simp[Wg,hj]
theorem zlU{l:List Int}{j:Nat}(h:zfd l j=false):zZ l (j+1)=zZ l j:=by unfold zZ;rw[zxK h]
theorem zmn{l:List Int}{n:Nat}(hn:n≤l.length)(h:∀j,j < n→zfd l j=true):zZ l n=l.take n:=by
 induction n with
 | zero=>rfl
 |
  succ n ih =>
  rw[zmk (by omega) (h n (by omega)),ih (by omega) (fun j hj=>h j (by omega)),WH,We (by omega)];rfl
theorem zfg{l:List Int}{j:Nat}(h1:1≤j)(hj:j < l.length):zfd l j=(l[j] != l[j - 1]):=by unfold zfd;rw[Wg,Wg,We hj,We (show j - 1 < l.length by omega)];simp;omega
def curI(K l:List Int):List Int:=K++l.drop K.length
theorem zpW{K l:List Int}(h:K.length≤l.length):(curI K l).length=l.length:=by simp[curI];omega
theorem zw0{K l:List Int}{j:Nat}(h:K.length≤j)(hj:j < l.length):(curI K l)[j]? = some l[j]:=by unfold curI;rw[List.getElem?_append_right h,List.getElem?_drop,show K.length+(j - K.length)=j by omega,We hj]
theorem ztA{K l:List Int}{j:Nat}(h:K.length≤j)(hj:j < l.length):((curI K l).map cI).getD j []=[.int .i64 l[j]]:=by simp[Wg,zw0 h hj]
theorem zxL{K l:List Int}{v:Int}(h:K.length < l.length):(curI K l).set K.length v=curI (K++[v]) l:=by unfold curI;rw[List.set_append_right _ _ (Wa _),Nat.sub_self,List.drop_eq_getElem_cons h,List.set_cons_zero];simp
theorem zBz{K l:List Int}{v:Int}(h:K.length < l.length):((curI K l).map cI).set K.length [.int .i64 v]=(curI (K++[v]) l).map cI:=by rw[←zxL h,List.map_set]
theorem ztL{l:List Int}{n:Nat}(h:n≤l.length):curI (l.take n) l=l:=by unfold curI;rw[Wu,Nat.min_eq_left h,List.take_append_drop]
theorem zsT(l:List Int)(g:Nat)(hl:l.length≤100000000000):
  zU Tryz.prog zc7 [.own 0 0 g 0 l.length] [(0,.row 1 (l.map cI) g)] 1
   (fun v H nx=>∃m,v=.own 0 0 g 0 (za8 l).length∧H=[(0,.row 1 ((za8 l++m).map cI) g)]∧nx=1):=by
 refine zR (fn_x zjC rfl ?_)
 unfold zfa;conv in dcC _ _=>cbv
 have hB:=hBig
 have fin:∀K m,(∀j,j < l.length→zfd l j=true)→K=(4,AV.undef)→m=0→za8 l=l:=fun K m h _ _=>by unfold za8;rw[zmn (Wa _) h,WI]
 (refine Gw0 ?_;intros)
 (refine zw (fun h=>?_) (fun h=>?_))<;>(try simp only[dcd] at h)
 ·
  (refine Gw1 @zbE.eq_1 ?_;intros)
  have hall:∀j,j < l.length→zfd l j=true:=fun j hj=>by
   have:j=0:=by omega
   subst this;rfl
  have e:=fin (4,.undef) 0 hall rfl rfl;refine⟨.own 0 0 g 0 l.length,[(0,.row 1 ((l++[]).map cI) g)],1,?_,[],by rw[e],by rw[e],rfl⟩;rw[Wv];exact(Ent.tabB [(0,0,0)] [] rfl rfl rfl Qh Qh)
 (refine Gw0 ?_;intros);refine zd (fun i:Nat=>([(0,.own 0 0 g 0 l.length),(3,.int .i64 i)],[(0,.row 1 (l.map cI) g)])) 1 (fun i=>1≤i∧i≤l.length∧∀j,j < i→zfd l j=true) (fun i=>l.length - i) 1 ⟨by omega,by omega,fun j hj=>(by rw[show j=0 by omega];rfl)⟩ (Ent.tabB [(0,0,0)] [] rfl rfl rfl Qh Qh) ?_;intro i ⟨hi1,hi2,hall⟩ wf
 unfold zed;conv in dcC _ _=>cbv
 (refine Gw0 ?_;intros)
 (refine zw (fun h2=>?_) (fun h2=>?_))<;>(try simp only[dcd] at h2)
 ·
  have hi':i < l.length:=by omega
  have hi1':i - 1 < l.length:=by omega
  have ei:((i:Int) - 1).toNat=i - 1:=by omega
  (repeat first|simp(disch:=try exact dis1) only[evD,Nat.reduceBEq,Nat.reduceAdd,Nat.reduceLeDiff,zn hi',ei,zn hi1']|with_reducible first|intro _|refine aJ ?_)
  (refine zw (fun h3=>?_) (fun h3=>?_))<;>(try simp only[dcd] at h3)
  ·
   have hne:zfd l i=false:=by rw[zfg hi1 hi'];simp;omega
   have hk0:zZ l i=l.take i:=zmn (by omega) hall
   have hk1:zZ l (i+1)=l.take i:=by rw[zlU hne,hk0]
   have hk1l:(zZ l (i+1)).length=i:=by rw[hk1,Wu];omega
   have hstart:curI (zZ l (i+1)) l=l:=by rw[hk1,ztL (by omega)]
   have esl:((l.length:Int) - i).toNat=l.length - i:=by omega
   (refine Gw1 esl ?_;intros)
   refine zd (fun a:Nat=>([(0,.own 0 0 g 0 l.length),(3,.int .i64 (zZ l (i+a)).length),(4,.own 0 0 g i (l.length - i)),(5,.int .i64 a)],[(0,.row 1 ((curI (zZ l (i+a)) l).map cI) g)])) 1
    (fun a=>1≤a∧i+a≤l.length∧(zZ l (i+a)).length < i+a) (fun a=>l.length - (i+a)) 1 ⟨by omega,by omega,by omega⟩ (Ent.tabB [(0,0,0)] [] rfl rfl rfl (Gin2_2 hstart hk1l) (Gin2_2 hstart hk1l)) ?_
   intro a ⟨ha1,ha2,ha3⟩ wf
   unfold zd2;conv in dcC _ _=>cbv
   (refine Gw0 ?_;intros)
   (refine zw (fun h4=>?_) (fun h4=>?_))<;>(try simp only[dcd] at h4)
   ·
    have ha':i+a < l.length:=by omega
    have ha1':i+a - 1 < l.length:=by omega
    have e1:i+((a:Int) - 1).toNat=i+a - 1:=by omega
    have g1:=ztA (K:=zZ l (i+a)) (l:=l) (by omega) ha';have g2:=ztA (K:=zZ l (i+a)) (l:=l) (by omega) ha1';have hcl:=zpW (K:=zZ l (i+a)) (l:=l) (by omega);(refine Gw3 e1 g1 g2 ?_;intros)
    (refine zw (fun h5=>?_) (fun h5=>?_))<;>(try simp only[dcd] at h5)
    ·
     have hp:zfd l (i+a)=true:=by rw[zfg (by omega) ha'];simp;omega
     have hy:=zmk ha' hp;have hst:=zBz (K:=zZ l (i+a)) (l:=l) (v:=l[i+a]) (by omega);rw[←hy] at hst
     have hyl:(zZ l (i+a+1)).length=(zZ l (i+a)).length+1:=by rw[hy];simp
     (refine Gw4 e1 g1 g2 hst ?_;intros);exact⟨a+1,⟨by omega,by omega,by rw[show i+(a+1)=i+a+1 by omega,hyl];omega⟩,by omega,(Ent.tabB [(0,0,0)] [] rfl rfl rfl (Gin2_2 (show i+(a+1)=i+a+1 by omega) hyl) (Gin2_2 (show i+(a+1)=i+a+1 by omega) hyl))⟩
    ·
     have hp:zfd l (i+a)=false:=by rw[zfg (by omega) ha'];simp;omega
     have hy:=zlU hp;(refine Gw0 ?_;intros);exact⟨a+1,⟨by omega,by omega,by rw[show i+(a+1)=i+a+1 by omega,hy];omega⟩,by omega,(Ent.tabB [(0,0,0)] [] rfl rfl rfl (Gin2_2 (show i+(a+1)=i+a+1 by omega) hy) (Gin2_2 (show i+(a+1)=i+a+1 by omega) hy))⟩
   ·
    have hia:i+a=l.length:=by omega
    rw[hia] at ha3 ⊢
    have hz:((l.length:Int) - (zZ l l.length).length).toNat=l.length - (zZ l l.length).length:=by omega
    have hcl:=zpW (K:=zZ l l.length) (l:=l) (by omega)
    have hclr:((curI (zZ l l.length) l).map cI).take (zZ l l.length).length++Ww (l.length - (zZ l l.length).length) [AV.int .i64 0]++((curI (zZ l l.length) l).map cI).drop ((zZ l l.length).length+(l.length - (zZ l l.length).length))=(zZ l l.length++Ww (l.length - (zZ l l.length).length) 0).map cI:=by
     rw[List.drop_of_length_le (by rw[Wf,hcl];omega),Wv,←List.map_take,Wk,List.map_replicate]
     congr 2
     unfold curI;rw[List.take_append_of_le_length (Wa _),WI]
    unfold zec;conv in dcC _ _=>cbv
    (refine Gw3 @zbE.eq_1 hz hclr ?_;intros);refine⟨.own 0 0 g 0 (za8 l).length,[(0,.row 1 ((za8 l++Ww (l.length - (zZ l l.length).length) 0).map cI) g)],1,?_,_,rfl,rfl,rfl⟩;exact(Ent.tabB [(0,0,0)] [] rfl rfl rfl (Gin2_1 @za8.eq_1) (Gin2_1 @za8.eq_1))
  ·
   have hne:zfd l i=true:=by rw[zfg hi1 hi'];simp;omega
   unfold zd1;conv in dcC _ _=>cbv
   (refine Gw0 ?_;intros);refine⟨i+1,⟨by omega,by omega,fun j hj=>?_⟩,by omega,(Ent.tabB [(0,0,0)] [] rfl rfl rfl Qh Qh)⟩
   by_cases hji:j=i
   · subst hji;exact hne
   · exact hall j (by omega)
 ·
  obtain rfl:i=l.length:=by omega
  unfold zd5;have e:=fin (4,.undef) 0 hall rfl rfl;(refine Gw1 @zbE.eq_1 ?_;intros);refine⟨.own 0 0 g 0 l.length,[(0,.row 1 ((l++[]).map cI) g)],1,?_,[],by rw[e],by rw[e],rfl⟩;rw[Wv];exact(Ent.tabB [(0,0,0)] [] rfl rfl rfl Qh Qh)
structure SetS(c:Int)(ps:List (Int × Int)):Prop where
 keys:(ps.map (·.1)).Nodup
 borns:(ps.map (·.2)).Nodup
 lt:∀p∈ps,p.2 < c
 top:c≤1000000
 len:ps.length≤1000000
theorem zxu{ps sel:List (Int × Int)}(h1:sel.Nodup)(h2:ps.Nodup)(h3:∀p∈sel,p∈ps)(h4:∀p∈ps,p∈sel):sel.Perm ps :=
 List.perm_iff_count.2 fun a=>by
  by_cases ha:a∈ps
  · rw[List.Nodup.count h1,List.Nodup.count h2,if_pos ha,if_pos (h4 a ha)]
  · rw[List.Nodup.count h1,List.Nodup.count h2,if_neg ha,if_neg (fun h=>ha (h3 a h))]
theorem Ql{p:Prop}(h:p:=by(try simp only[evWB,Nat.reduceBEq,Nat.reduceAdd,Nat.reduceSub,Nat.reduceLeDiff,Nat.reduceLT,implies_true,ze,List.length_append,List.length_singleton,List.map_append,List.map_cons,List.map_nil])<;>exact fin8):p:=h
theorem zvJ(c:Int)(ps:List (Int × Int))(hs:SetS c ps):zU Tryz.prog zfy [.mp 0 0] [(0,.row 3 ((setM c ps).map cm) 0)] 1
  (fun v H nx=>v=za (zeF (ps.map (·.1)))∧H=[(0,.row 3 ((setM c ps).map cm) 0)]∧nx=1):=by
 refine zR (fn_x zmw rfl ?_)
 unfold zhB;conv in dcC _ _=>cbv
 have hB:=hBig;have htop:=hs.top;have hlen:=hs.len;(refine Gw3 @evM @ze @zu8 ?_;intros)
 refine zd (fun sel:List (Int × Int)=>([(3,.own 1 0 0 0 sel.length),(6,.it 2)],[(0,.row 3 ((setM c ps).map cm) 0),(1,.row 1 (sel.map fun p=>cI p.1) 0),(2,.row 1 ([.mp 0 0]::[.int .i64 c]::[.int .i64 c]::sel.map fun p=>[.int .i64 p.2]) 0)])) 3
  (fun sel=>sel.Nodup∧∀p∈sel,p∈ps) (fun sel=>ps.length - sel.length) [] ⟨List.nodup_nil,fun p h=>by cases h⟩ (Ent.tabB [(0,0,0),(1,2,0),(2,3,0)] [] rfl rfl rfl (Gin8_1 @ze) (Gin8_1 @ze)) ?_
 rintro sel ⟨hnd,hsub⟩ wf;have hpn:ps.Nodup:=zlS hs.keys;have hsl:sel.length≤ps.length:=List.Nodup.length_le_of_subset hnd hsub
 unfold zfY;conv in dcC _ _=>cbv
 (refine Gw0 ?_;intros);refine zxJ (ps:=ps) (sel:=sel) (c:=c) rfl rfl (by omega) hs.lt hs.borns hsub (fun hall=>?_) (fun p hp hns=>?_)
 ·
  have hperm:=zxu hnd hpn hsub hall;have hlen2:=hperm.length_eq;(refine Gw0 ?_;intros);have hsort:zeF (sel.map (·.1))=zeF (ps.map (·.1)):=ztG (((zcM _).trans (hperm.map _)).trans (zcM _).symm) (zfD _) (zfD _)
  have hmm:(sel.map fun p=>cI p.1)=(sel.map (·.1)).map fun n=>[AV.int .i64 n]:=by rw[List.map_map];rfl
  rw[hmm]
  unfold zgs;conv in dcC _ _=>cbv
  (refine Gw0 ?_;intros);have hsc:=ztV (H:=[(0,.row 3 ((setM c ps).map cm) 0),(1,.row 1 ((sel.map (·.1)).map fun n=>[AV.int .i64 n]) 0),(2,.row 1 ([.mp 0 0]::[.int .i64 c]::[.int .i64 c]::sel.map fun p=>[.int .i64 p.2]) 0)]) (nx:=3) (r:=1) (q:=0) (g:=0) (zs:=sel.map (·.1)) rfl (by rw[Wf];omega);rw[Wf] at hsc;refine zsn hsc ?_;rintro _ _ _ hres;simp only[Prod.mk.injEq] at hres;obtain⟨rfl,rfl,rfl⟩:=hres
  have hl3:sel.length=(zeF (ps.map (·.1))).length:=by rw[(zcM _).length_eq,Wf];exact hlen2
  rw[hsort,hl3];generalize zeF (ps.map (·.1))=so at hl3 ⊢;(refine Gw1 @zhU.eq_1 ?_;intros);exact⟨za so,[(0,.row 3 ((setM c ps).map cm) 0)],1,(Ent.tabB [(0,0,0)] [1] rfl rfl rfl (Gin8_1 @ze) (Gin8_1 @ze)),rfl,rfl,rfl⟩
 ·
  have hent:=fun(H:AH) (nx:Nat) (hr) (hm)=>zxr (H:=H) (nx:=nx) (r:=2) (rm:=0) (qm:=0) (c:=c) (since:=c) (sel:=sel) (p:=p) hr hm hs.borns hp
  (refine Gw0 ?_;intros);rw[hent _ _ rfl rfl];(refine Gw0 ?_;intros);refine⟨sel++[p],⟨?_,?_⟩,?_,(Ent.tabB [(0,0,0),(1,1,1),(2,2,0)] [] rfl rfl rfl Ql Ql)⟩
  · rw[Wy];exact⟨hnd,by simp,fun a ha b hb e=>hns (by rw[Wh] at hb;rw[←hb,←e];exact ha)⟩
  ·
   intro a ha
   rcases Wz.1 ha with ha|ha
   · exact hsub a ha
   · rw[Wh] at ha;rw[ha];exact hp
  ·
   have:sel.length < ps.length:=by
    have:=List.Nodup.length_le_of_subset (Ws.2 ⟨hns,hnd⟩) (show ∀a∈p::sel,a∈ps from fun a ha=>by
     rcases Wi.1 ha with rfl|ha
     · exact hp
     · exact hsub a ha)
    simp only[Wl] at this;omega
   rw[Wp,Wq];omega
def famS(n:Nat)(S:Nat→Int × List (Int × Int)):AObj:=.fam 3 (fi cm n (fun i=>setM (S i).1 (S i).2) (fun _=>0))
abbrev MS:=Int × List (Int × Int)
def MS.keys(s:MS):List Int:=s.2.map (·.1)
def MS.ok(s:MS):Prop:=SetS s.1 s.2
def add1(s:MS)(v:Int):MS:=if v∈s.keys then s else (s.1+1,s.2++[(v,s.1)])
def addL(s:MS)(l:List Int):MS:=l.foldl add1 s
theorem zqt{s:MS}{v:Int}:(add1 s v).keys=if v∈s.keys then s.keys else s.keys++[v]:=by
 unfold add1;split
 · rfl
 · simp[MS.keys]
theorem zwZ{s:MS}{v:Int}:s.2.length≤(add1 s v).2.length∧(add1 s v).1≤s.1+1∧(add1 s v).2.length≤s.2.length+1:=by
 unfold add1;split
 · exact⟨Wa _,by omega,by omega⟩
 · exact⟨by simp,by simp,by simp⟩
theorem SetS.add{c:Int}{ps:List (Int × Int)}(h:SetS c ps){v:Int}(hv:v∉ps.map (·.1))(ht:c < 1000000)(hl:ps.length < 1000000):SetS (c+1) (ps++[(v,c)]):=by
 refine⟨?_,?_,fun p hp=>?_,by omega,by simp;omega⟩
 · rw[Wk,Wy];exact⟨h.keys,by simp,fun a ha b hb e=>hv (by simp only[Wn,Wx,Wh] at hb;rw[←hb,←e];exact ha)⟩
 · rw[Wk,Wy];refine⟨h.borns,by simp,fun a ha b hb e=>?_⟩;simp only[Wn,Wx,Wh] at hb;obtain⟨p,hp,hpe⟩:=List.mem_map.1 ha;have:=h.lt p hp;omega
 ·
  rcases Wz.1 hp with hp|hp
  · have:=h.lt p hp;omega
  · rw[Wh] at hp;rw[hp];simp only;omega
theorem zFn{s:MS}{v:Int}(h:s.ok)(ht:s.1 < 1000000)(hl:s.2.length < 1000000):(add1 s v).ok:=by
 unfold add1;split
 · exact h
 · rename_i hv;exact SetS.add h hv ht hl
theorem zdN:∀{l:List Int}{s:MS},s.2.length≤(addL s l).2.length∧(addL s l).1≤s.1+l.length∧(addL s l).2.length≤s.2.length+l.length
 | [],s=>⟨Wa _,by simp[addL],by simp[addL]⟩
 |
  v::l,s=>by
  have h1:=zwZ (s:=s) (v:=v);have h2:=zdN (l:=l) (s:=add1 s v);show s.2.length≤(addL (add1 s v) l).2.length∧(addL (add1 s v) l).1≤s.1+_∧(addL (add1 s v) l).2.length≤_;simp only[Wl];exact⟨by omega,by omega,by omega⟩
theorem zkE:∀{l:List Int}{s:MS},s.ok→s.1+l.length≤1000000→s.2.length+l.length≤1000000→(addL s l).ok
 | [],s,h,_,_=>h
 |
  v::l,s,h,h1,h2=>by
  simp only[Wl] at h1 h2;have h3:=zwZ (s:=s) (v:=v);exact zkE (l:=l) (zFn h (by omega) (by omega)) (by omega) (by omega)
theorem zji{y:Int}:∀{l:List Int}{s:MS},y∈(addL s l).keys↔y∈s.keys∨y∈l
 | [],s=>by simp[addL]
 |
  v::l,s=>by
  show y∈(addL (add1 s v) l).keys↔_;rw[zji,zqt];split
  ·
   rename_i h;constructor
   ·
    rintro(h1|h1)
    · exact .inl h1
    · exact .inr (List.mem_cons_of_mem _ h1)
   ·
    rintro(h1|h1)
    · exact .inl h1
    ·
     rcases Wi.1 h1 with rfl|h1
     · exact .inl h
     · exact .inr h1
  · rw[Wz,Wh,Wi,or_assoc]
theorem zim{s:MS}{l:List Int}{i:Nat}(h:i < l.length):addL s (l.take (i+1))=add1 (addL s (l.take i)) l[i]:=by unfold addL;rw[WH,We h,List.foldl_append];rfl
theorem zfk{p:Int × Int}{ps:List (Int × Int)}:(enL (ps++[p])).map cm=(enL ps).map cm++[[.int .i64 p.1,.bool true,.int .i64 p.2]]:=by simp[enL,cm]
theorem zx1(s:MS)(l:List Int)(hs:s.ok)(h1:s.1+l.length≤1000000)(h2:s.2.length+l.length≤1000000):zU Tryz.prog zfV [.mp 0 0,za l] [(0,.row 3 ((setM s.1 s.2).map cm) 0)] 1
  (fun v H nx=>v=.bool (decide (s.2.length < (addL s l).2.length))∧H=[(0,.row 3 ((setM (addL s l).1 (addL s l).2).map cm) 0)]∧nx=1):=by
 refine zR (fn_x znE rfl ?_)
 unfold zig;conv in dcC _ _=>cbv
 have hB:=hBig;(refine Gw1 @ua ?_;intros)
 refine zd (fun i:Nat=>([(0,.mp 0 0),(5,.bool (decide (s.2.length < (addL s (l.take i)).2.length))),(8,za l),(9,.int .i64 l.length),(10,.int .i64 i)],[(0,.row 3 ((setM (addL s (l.take i)).1 (addL s (l.take i)).2).map cm) 0)])) 1
  (fun i=>i≤l.length) (fun i=>l.length - i) 0 (Nat.zero_le _) (by rw[List.take_zero,show addL s []=s from rfl,dF (Nat.lt_irrefl _)];exact(Ent.tabB [(0,0,0)] [] rfl rfl rfl (Gin6_2 @ze @ua) (Gin6_2 @ze @ua))) ?_
 rintro i hi wf
 unfold zgI;conv in dcC _ _=>cbv
 by_cases hl:i < l.length
 ·
  have hgl:=zn (f:=cI) (d:=[]) hl;have hb:=zdN (l:=l.take i) (s:=s);rw[Wu] at hb;have hnx:=zim (s:=s) hl;generalize addL s (l.take i)=si at hb hnx ⊢;obtain⟨c,ps⟩:=si;simp only at hb hnx ⊢
  by_cases hk:l[i]∈ps.map (·.1)
  · obtain⟨j,hj,hje,hf⟩:=zgr hk;have e1:add1 (c,ps) l[i]=(c,ps):=if_pos hk;rw[e1] at hnx;(refine Gw5 @dT hgl @ua @ze hf ?_;intros);exact⟨i+1,by omega,by omega,(Ent.tabB [(0,0,0)] [] rfl rfl rfl (Gin6_3 @ze @ua hnx) (Gin6_3 @ze @ua hnx))⟩
  · have hf:=zeH hk;have e1:add1 (c,ps) l[i]=(c+1,ps++[(l[i],c)]):=if_neg hk;rw[e1] at hnx;(refine Gw5 @dT hgl @ua @ze hf ?_;intros);have hd:decide (s.2.length < ps.length+1)=true:=dT (by omega);exact⟨i+1,by omega,by omega,(Ent.tabB [(0,0,0)] [] rfl rfl rfl (by(try simp only[evWB,Nat.reduceBEq,Nat.reduceAdd,Nat.reduceSub,Nat.reduceLeDiff,Nat.reduceLT,implies_true,ze,za,hnx,zfk,Wp,Wq,hd])<;>exact fin6) (by(try simp only[evWB,Nat.reduceBEq,Nat.reduceAdd,Nat.reduceSub,Nat.reduceLeDiff,Nat.reduceLT,implies_true,ze,za,hnx,zfk,Wp,Wq,hd])<;>exact fin6))⟩
 · (refine Qd ?_;intros);unfold zgD;(refine Gw1 @ziY.eq_1 ?_;intros);rw[List.take_of_length_le (by omega)];exact⟨_,_,_,(Ent.tabB [(0,0,0)] [] rfl rfl rfl (Gin6_1 @ze) (Gin6_1 @ze)),rfl,rfl,rfl⟩
theorem zwX{n:Int}:∀{l:List Int},(insU n l).length≤l.length+1
 | []=>by simp[insU]
 |
  x::l=>by
  unfold insU;split
  · have:=zwX (n:=n) (l:=l);simp only[Wl];omega
  · split<;>simp
theorem zsm{a:List Int}:∀{b:List Int},(zhd a b).length≤a.length+b.length:=by
 intro b
 induction b generalizing a with
 | nil=>simp[zhd]
 |
  cons x b ih =>
  have h1:=ih (a:=insU x a);have h2:=zwX (n:=x) (l:=a);show (zhd (insU x a) b).length≤_;simp only[Wl];omega
end Go.Ab
