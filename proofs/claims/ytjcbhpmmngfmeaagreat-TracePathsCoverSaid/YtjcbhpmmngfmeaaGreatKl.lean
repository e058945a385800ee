/-
  Part 12 of the proof: how the calls of this program run, over values instead of memory, and what each function computes.
-/
import Derived.KernelRfl
import Derived.Test.YtjcbhpmmngfmeaaGreatKk
set_option maxRecDepth 100000
set_option linter.unusedVariables false
set_option linter.unusedSimpArgs false
set_option linter.unnecessarySimpa false
set_option linter.unusedSectionVars false
open List renaming mem_cons→Wa,length_append→We,pairwise_cons→Wf,flatMap_cons→Wg,length_nil→Wh,mem_map→Wi,drop_of_length_le→Wj,mem_range→Wk,length_cons→Wl,append_assoc→Wm,getD→Wn,mem_flatMap→Wp,take_of_length_le→Wr,all_cons→Ws,nil_append→Wt,append_nil→Wu,mem_singleton→Ww,mem_filter→Wx,drop_eq_getElem_cons→Wy,getElem_mem→WA,flatMap_nil→WB,take_succ_eq_append_getElem→WC
open Nat renaming zero_le→Wc,le_trans→Wd,le_refl→Wo,zero_add→Wv
open Bool renaming true_and→Wq,false_and→Wz
namespace Go.Ab.Dm
open Go.RowKit Go.Proofs
structure TI (A:Adj) (r:Nat) (l:List Nat) (f:Nat→Nat) (T:Nat→Option Nat):Prop where
 wt:WT r l T
 sd:Sd A r l T
 gd:T=(fun _=>none)∨∃T0,Gd A r l f T0 T
structure Bst (U:Nat→Option Nat) (r:Nat) (l qs:List Nat) (best:Option Nat):Prop where
 no:best=none→∀p∈qs,p∈l→¬Hd r U p
 yes:∀c,best=some c→c∈l∧Hd r U c∧∀x,Ch U c x↔∀p∈qs,p∈l→Hd r U p→Ch U p x
theorem dF {p:Prop} (h:¬p) {inst:Decidable p}:@decide p inst=false:=decide_eq_false h
theorem dT {p:Prop} (h:p) {inst:Decidable p}:@decide p inst=true:=decide_eq_true h
end Go.Ab.Dm
namespace Go.Ab.Dm
structure SL (A:Adj) (r:Nat) (l:List Nat) (inc:Bool) (S:Adj) (n:Nat):Prop where
 nd:∀b,b < n→(suc S b).Nodup
 mem:∀a b,b < n→(a∈suc S b↔(b∈l∧a∈l∧a≠b∧(a≠r∨inc=true)∧Dm A r a b))
theorem zzA {A:Adj} (hok:A.ok) {r:Nat} (hr:r < A.length) {x:Nat}:x∈ordL A r↔RA A (fun _=>False) r x:=(rpo hok hr).mem x
end Go.Ab.Dm
namespace Go.Ab.Dm
open Go.RowKit Go.Proofs
theorem inB_order {E:Adj} (hE:E.ok):inB E.length (orderL E)=reachL E:=by
 unfold inB reachL mapR
 refine List.map_congr_left fun b hb=>?_
 have hb':=Wk.1 hb
 have hn:0 < E.length:=by omega
 have h1:orderL E=ordL E 0:=by unfold orderL ordL;rw[if_neg (by omega)]
 have h2:b∈zxk E 0 (-1)↔RA E (fun _=>False) 0 b:=zwT hE hn;rw[h1];exact decide_eq_decide.2 ((zzA hE hn).trans h2.symm)
theorem orderL_nd {E:Adj} (hE:E.ok):NdL E.length (orderL E):=by
 by_cases hn:0 < E.length
 ·
  have h1:orderL E=ordL E 0:=by unfold orderL ordL;rw[if_neg (by omega)]
  rw[h1];exact⟨(rpo hE hn).nd,(rpo hE hn).lt⟩
 ·
  have h1:orderL E=[]:=by unfold orderL;rw[if_pos (by omega)]
  rw[h1];exact⟨by simp,by simp⟩
theorem dominator_Reachable_ok (g:Gr) (hg:g.small):zk Tryz.prog zcD [.agg g.cells] (·=zaa (reachL g.E)):=by
 refine fn_x ziQ rfl ?_;unfold zes;have hB:=hBig;have hlen:=g.E_len;have hn:=hg.1;rw[←inB_order g.E_ok];have hnd:=orderL_nd g.E_ok
 (repeat first|simp(disch:=try exact dis1) only[evD,Nat.reduceBEq,Nat.reduceAdd,Nat.reduceLeDiff,Gr.cells,Gr.two]|with_reducible first|intro _|refine aJ ?_)
 refine zc (zg (zly g hg) rfl) ?_;generalize orderL g.E=l at hnd ⊢;generalize g.E.length=n at hlen hnd ⊢;subst hlen;have hln:=hnd.len
 (repeat first|simp(disch:=try exact dis1) only[evD,Nat.reduceBEq,Nat.reduceAdd,Nat.reduceLeDiff,zbD]|with_reducible first|intro _|refine aJ ?_)
 refine zm (fun i:Nat=>([(3,.own 0 0 0 0 g.blocks.length),(11,zbD l),(12,.int .i64 l.length),(13,.int .i64 i)],[(0,.row 1 ((inB g.blocks.length (l.take i)).map cB) 0)])) 1 (fun i=>i≤l.length) (fun i=>l.length - i) 0 (Wc _) (Ent.tab [(0,1,0)] [] rfl (by(try simp only[evWB,Nat.reduceBEq,Nat.reduceAdd,Nat.reduceSub,Nat.reduceLeDiff,Nat.reduceLT,implies_true,zp5])<;>exact fin4) (by(try simp only[evWB,Nat.reduceBEq,Nat.reduceAdd,Nat.reduceSub,Nat.reduceLeDiff,Nat.reduceLT,implies_true,zp5])<;>exact fin4)) ?_;intro i hi wf;unfold zc8
 (repeat first|simp(disch:=try exact dis1) only[evD,Nat.reduceBEq,Nat.reduceAdd,Nat.reduceLeDiff,zbD]|with_reducible first|intro _|refine aJ ?_)
 (refine zx (fun h=>?_) (fun h=>?_))<;>(try simp only[dcd] at h)
 ·
  have hi':i < l.length:=by omega
  have hk:=hnd.lt _ (WA hi')
  have htk:l.take (i+1)=l.take i++[l[i]]:=by rw[List.take_add_one,List.getElem?_eq_getElem hi'];rfl
  (repeat first|simp(disch:=try exact dis1) only[evD,Nat.reduceBEq,Nat.reduceAdd,Nat.reduceLeDiff,zo hi',zqr,zxq]|with_reducible first|intro _|refine aJ ?_)
  exact⟨i+1,by omega,by omega,(Ent.tab [(0,0,0)] [] rfl (by(try simp only[evWB,Nat.reduceBEq,Nat.reduceAdd,Nat.reduceSub,Nat.reduceLeDiff,Nat.reduceLT,implies_true,htk])<;>exact fin4) (by(try simp only[evWB,Nat.reduceBEq,Nat.reduceAdd,Nat.reduceSub,Nat.reduceLeDiff,Nat.reduceLT,implies_true,htk])<;>exact fin4))⟩
 ·
  unfold zdg
  (repeat first|simp(disch:=try exact dis1) only[evD,Nat.reduceBEq,Nat.reduceAdd,Nat.reduceLeDiff,zew]|with_reducible first|intro _|refine aJ ?_)
  refine⟨_,?_,rfl⟩;rw[Wr (by omega)];have e:=zqr (n:=g.blocks.length) (l:=l);have:=znc (H:=[(0,.row 1 ((inB g.blocks.length l).map cB) 0)]) (H2:=[]) (σ:=nos) (D:=allR) (t:=false) (r:=0) (q:=0) (g:=0) (l:=inB g.blocks.length l) trivial rfl (by omega)
  rwa [e] at this
end Go.Ab.Dm
namespace Go.Ab
open Go.RowKit Go.Proofs
def St.toS (s:St):Stm:=⟨s.op,s.var,s.width,s.next,s.els,s.tgt,encL 5 encX s.e,s.cases⟩
def Bl.toB (b:Bl):Blk:=⟨b.addr,b.stmts.map St.toS⟩
def G.toG (g:G):Gr:=⟨g.addr,g.blocks.map Bl.toB⟩
theorem zur {α β:Type} {n:Nat} {f:β→List AV} {h:α→β} {l:List α}:encL n f (l.map h)=encL n (fun x=>f (h x)) l:=by unfold encL;rw[List.length_map,List.map_map];rfl
theorem St.toS_cells (s:St):s.toS.cells=s.cells:=rfl
theorem Bl.toB_cells (b:Bl):b.toB.cells=b.cells:=by unfold Bl.toB Blk.cells Bl.cells;simp only[zur,St.toS_cells]
theorem G.toG_cells (g:G):g.toG.cells=g.cells:=by unfold G.toG Gr.cells G.cells;simp only[zur,Bl.toB_cells]
theorem Bl.toB_targets (b:Bl):b.toB.targets=zy b.stmts:=by
 unfold Blk.targets zy Bl.toB;simp only[List.getLast?_map]
 cases b.stmts.getLast? <;> rfl
structure midG (g:G):Prop where
 blocks:g.blocks.length≤300
 stmts:∀b∈g.blocks,b.stmts.length≤1100∧∀s∈b.stmts,s.cases.length≤100
theorem zjJ {g:G} (h:midG g):manyB g:=⟨Wd h.blocks (by decide),fun b hb=>Wd (h.stmts b hb).1 (by decide)⟩
theorem zpJ {g:G} (h:midG g):∀b∈g.blocks,∀s∈b.stmts,s.cases.length≤100000000:=fun b hb s hs=>Wd ((h.stmts b hb).2 s hs) (by decide)
theorem zgi {l:List St} {n:Nat} (hn:2≤n) (h:∀s∈l,s.cases.length≤n):(zy l).length≤n:=by
 unfold zy
 cases hl:l.getLast? with
 | none=>simp
 |
  some s =>
  have:=h s (List.mem_of_getLast? hl);simp only[zhf];split
  · simp only[List.length_singleton];omega
  ·
   split
   · simp only[Wl,Wh];omega
   ·
    split
    · exact this
    · simp
theorem zvY {g:G} (h:midG g):g.toG.small:=by refine⟨by have:=h.blocks;simp[G.toG];omega,fun b hb=>?_⟩;obtain⟨b',h3,rfl⟩:=Wi.1 hb;rw[Bl.toB_targets];exact Wd (zgi (by decide) (h.stmts b' h3).2) (by decide:100≤1000)
def zoB:Nd→Bool
 | .mk f c l=>zbE f.kind f.block f.label c l.length
mutual
def zfj:Nd→Bool
 | .mk f c l=>zdH l&&zbE f.kind f.block f.label c l.length
def zdH:List Nd→Bool
 | []=>true
 | x::l=>zfj x&&zdH l
end
mutual
theorem znP:∀n:Nd,(allN n).all zoB=zfj n
 |
  .mk f c l=>by
  rw[allN,Ws,zmA l,zfj,Bool.and_comm];rfl
theorem zmA:∀l:List Nd,(zd9 l).all zoB=zdH l
 | []=>by rw[zd9,zdH];rfl
 | x::l=>by rw[zd9,List.all_append,znP x,zmA l,zdH]
end
theorem zlt (e:Nd):zk Tryz.prog zE [.agg (encN e)] (·=.bool (zoB e)):=by obtain⟨⟨kd,bl,lb⟩,c,l⟩:=e;rw[zeC];exact zkz kd bl lb c l
theorem zmy (l:List Nd):PredN (.fn (.func zds) []) l (fun x => !zoB x):=by
 refine⟨_,_,rfl,by kernel_rfl,rfl,fun s hs=>?_⟩;refine fn_x zjS rfl ?_;unfold zfO
 (refine Qac ?_;intros)
 refine zc (zg (zlt s) (flN rfl)) ?_
 (repeat first|simp(disch:=try exact dis1) only[evD,Nat.reduceBEq,Nat.reduceAdd,Nat.reduceLeDiff,zfq]|with_reducible first|intro _|refine aJ ?_)
 exact⟨_,.bool _ _,rfl⟩
theorem Qba {p:Prop}(h:p:=by(try simp only[evWB,Nat.reduceBEq,Nat.reduceAdd,Nat.reduceSub,Nat.reduceLeDiff,Nat.reduceLT,implies_true,List.length_append,List.map_append,List.length_cons,List.length_nil,List.map_cons,List.map_nil])<;>exact fin2):p:=h
theorem zjT (e:Nd) (hs:zax e≤1000):z7 Tryz.prog zdG [.agg (encN e)] [] 0 (fun v H nx=>v=.own 0 0 0 0 (coll labP e).length∧H=[(0,.row 1 ((coll labP e).map cI) 0)]∧nx=1):=by
 refine z8 (fn_x zk7 rfl ?_);unfold zgy;have hB:=hBig;rw[←zst];have hl:=zng zuB e;rw[←zst] at hl
 (refine Qu ?_;intros)
 refine zc (zg (ziD e hs) (flN rfl)) ?_
 have hlen:(allN e).length≤1000:=by rw[zna];exact hs
 generalize allN e=l at *;generalize hR:fm labP l=R at hl ⊢
 (refine Qa ?_;intros)
 refine zm (fun s:Nat × List Int=>([(3,.own 0 0 0 0 s.2.length),(7,encL 5 encN l),(8,.int .i64 l.length),(9,.int .i64 s.1)],[(0,.row 1 (s.2.map cI) 0)])) 1 (fun s=>s.1≤l.length∧s.2++fm labP (l.drop s.1)=R) (fun s=>l.length - s.1) (0,[]) ⟨Wc _,by simp only[List.drop_zero,Wt];exact hR⟩ (Ent.tab [(0,1,0)] [] rfl Qan Qan) ?_;rintro⟨i,x⟩ ⟨hi,hgo⟩ wf;simp only at hi hgo;unfold zel
 by_cases hil:i < l.length
 ·
  rw[zBo hil] at hgo;have hgd:=zo (f:=encN) (d:=[]) hil;generalize hli:l[i]=y at hgd hgo;obtain⟨⟨kd,bl,lb⟩,c,m⟩:=y;simp only[Nd.f] at hgo
  have hg:labP ⟨kd,bl,lb⟩=if kd=10 then [lb] else []:=rfl
  rw[zeC] at hgd;simp only at hgd;have hxl:=congrArg List.length hgo;simp only[We] at hxl
  (repeat first|simp(disch:=try exact dis1) only[evD,Nat.reduceBEq,Nat.reduceAdd,Nat.reduceLeDiff,dT,hgd,Wl,Wh]|with_reducible first|intro _|refine aJ ?_)
  (refine zx (fun h9=>?_) (fun h9=>?_))<;>(try simp only[dcd] at h9)
  ·
   rw[if_pos h9] at hg;rw[hg,←Wm] at hgo
   (refine Qa ?_;intros)
   exact⟨(i+1,x++[lb]),⟨by simp only;omega,hgo⟩,by simp only;omega,(Ent.tab [(0,0,1)] [] rfl Qba Qba)⟩
  ·
   rw[if_neg h9] at hg;rw[hg,Wt] at hgo
   (refine Qa ?_;intros)
   exact⟨(i+1,x),⟨by simp only;omega,hgo⟩,by simp only;omega,(Ent.tab [(0,0,0)] [] rfl Qan Qan)⟩
 ·
  rw[Wj (by omega),zyw,Wu] at hgo;subst hgo
  (refine Qk ?_;intros)
  unfold zen
  (repeat first|simp(disch:=try exact dis1) only[evD,Nat.reduceBEq,Nat.reduceAdd,Nat.reduceLeDiff,zgt]|with_reducible first|intro _|refine aJ ?_)
  exact⟨.own 0 0 0 0 x.length,[(0,.row 1 (x.map cI) 0)],1,(Ent.tab [(0,0,0)] [] rfl Qan Qan),rfl,rfl,rfl⟩
def zdU (l:List (List Int)):AV:=encL 1 cP l
def ziC (g:G) (most:Int):List (List Int) :=
 if zbi g≠0 then [] else if 65536 < most then [] else if most≤0 then [[]] else
 if (zaL g most (most.toNat - 1) [0] []).1 then (zaL g most (most.toNat - 1) [0] []).2 else []
theorem zun {H H2:AH} {σ:Nat→Nat→Option (Nat × Nat × Nat)} {D:Nat→Nat→Prop} {t:Bool} {r q g:Nat} {l:List (List Int)} (hD:D r q) (hg:H.get r q=some (.row 1 (l.map cP) g)) (hl:l.length≤big):Vw H H2 σ D t (.own r q g 0 l.length) (zdU l):=by
 refine .frz t r q g 0 l.length 1 _ _ hD hg hl (by simp) fun i j hi hj=>?_
 rw[Wv];have e:(l.map cP).getD i []=cP l[i]:=zo (f:=cP) hi;show Vw _ _ _ _ _ (((l.map cP).getD i []).getD j .undef) (((l.map cP).getD i []).getD j .undef);rw[e]
 obtain rfl:j=0:=by omega
 exact .sl _ _ _ _
theorem Qad {p q:Prop}(k:q)(h:Im q p:=by(repeat first|simp(disch:=try exact dis1) only[evD,Nat.reduceBEq,Nat.reduceAdd,Nat.reduceLeDiff,dT,zcg] | ((with_reducible apply Im.i);intro _) | ((with_reducible apply Im.a);omega));exact Im.r):p:=h k
theorem zpd (g:G) (most:Int) (hf:manyB g) (hc:∀b∈g.blocks,∀s∈b.stmts,s.cases.length≤1000) (hm:most≤1000∨65536 < most) (hG:zbi g=0→OkG g) :
  zk Tryz.prog zdL [.agg g.cells,.int .i64 most] (·=zdU (ziC g most)):=by
 refine fn_x zoX rfl ?_;unfold zkd;have hB:=hBig;have hgr:=zkt g [] most hf (fun b hb s hs=>Wd (hc b hb s hs) (by decide)) (by simp) (by omega) (fun c hc=>by cases hc) hG
 have hlend:∀H:AH,Lend H noR [.agg g.cells,.nilsl,.int .i64 most] [.agg g.cells,encL 1 cW [],.int .i64 most]:=fun H=>.cons (zao rfl) (.cons (.nil0 _ _ _) (.cons (.int _ _ _) .nil))
 have retE:∀(H:AH) (r γ:Nat),H.get r 0=some (.row 1 [] γ)→∃a,Frz H (.own r 0 γ 0 0) a∧a=zdU []:=fun H r γ h=>⟨_,zun (l:=[]) trivial h (by simp only[Wh];omega),rfl⟩
 unfold ziC
 by_cases h0:zbi g=0
 case neg =>
  rw[if_pos h0] at hgr ⊢;simp only[G.cells] at hgr hlend ⊢
  (refine Ql ?_;intros)
  refine zc (zM hgr (hlend _) (.inr fun _ _ h=>h)) ?_
  (refine Qad ?_;intros)
  exact retE _ _ _ rfl
 rw[if_neg (fun h=>h h0)] at hgr ⊢
 by_cases h1:65536 < most
 ·
  rw[if_pos h1] at hgr ⊢;simp only[G.cells] at hgr hlend ⊢
  (refine Ql ?_;intros)
  refine zc (zM hgr (hlend _) (.inr fun _ _ h=>h)) ?_
  (refine Qad ?_;intros)
  exact retE _ _ _ rfl
 rw[if_neg h1] at hgr ⊢
 by_cases h2:most≤0
 ·
  rw[if_pos h2];simp only[G.cells] at hgr hlend ⊢
  (refine Ql ?_;intros)
  refine zc (zM hgr (hlend _) (.inr fun _ _ h=>h)) ?_
  (repeat first|simp(disch:=try exact dis1) only[evD,Nat.reduceBEq,Nat.reduceAdd,Nat.reduceLeDiff,dT,dF,zcg]|with_reducible first|intro _|refine aJ ?_)
  refine⟨zdU [[]],.frz _ 1 0 0 0 1 1 [[.nilsl]] _ trivial rfl (by omega) (by decide) fun i j hi hj=>?_,rfl⟩
  obtain rfl:i=0:=by omega
  obtain rfl:j=0:=by omega
  exact .nil0 _ _ _
 rw[if_neg h2]
 have hcl:∀b∈g.blocks,(zy b.stmts).length≤1000:=fun b hb=>zgi (by decide) (hc b hb)
 have hfo:=zod g (hG h0) hcl most (by omega) (most.toNat - 1) [0] [] [] 0 0 (by simp;omega) (by simp) (fun b hb=>by
  rw[Ww.1 hb]
  exact⟨Int.le_refl _,by have:=(hG h0).pos;omega⟩) (by simp)
 have hRl:=zkS g most (most.toNat - 1) [0] [] (by simp);generalize zaL g most (most.toNat - 1) [0] []=R at hfo hRl ⊢;simp only[G.cells] at hgr hlend ⊢
 (refine Ql ?_;intros)
 refine zc (zM hgr (hlend _) (.inr fun _ _ h=>h)) ?_
 (refine Qi ?_;intros)
 refine⟨by kernel_rfl,zbq [(0,1,0),(2,3,0),(3,2,0)] 4 _ (hfo (fun v H nx=>v=.bool R.1∧∃γ' junk',H=zeL g most γ' 0 R.2 ([0]++junk')∧nx=4) (fun γ' junk'=>⟨rfl,γ',junk',rfl,rfl⟩)) rfl rfl ?_ ?_ ?_⟩
 · simp only[evWB,Nat.reduceBEq,Nat.reduceAdd,Nat.reduceSub,Nat.reduceLeDiff,Nat.reduceLT,implies_true,zeL];exact⟨⟨1,rfl⟩,.iptr _ _ _,.iptr _ _ _,.ptr _ _ _ 0 _ _ _ _ _ rfl rfl,.ptr _ _ _ 0 _ _ _ _ _ rfl rfl,trivial⟩
 · simp only[evWB,Nat.reduceBEq,Nat.reduceAdd,Nat.reduceSub,Nat.reduceLeDiff,Nat.reduceLT,implies_true,zma];exact .iptr _ _ _
 rintro v H' nx' ⟨rfl,γ',junk',rfl,rfl⟩;simp only[zeL]
 (repeat first|simp(disch:=try exact dis1) only[evD,Nat.reduceBEq,Nat.reduceAdd,Nat.reduceLeDiff,zma,zuX]|with_reducible first|intro _|refine aJ ?_)
 obtain⟨ok,out⟩:=R
 cases ok with
 |
  true =>
  (repeat first|simp(disch:=try exact dis1) only[evD,Nat.reduceBEq,Nat.reduceAdd,Nat.reduceLeDiff,zuX,zcg]|with_reducible first|intro _|refine aJ ?_)
  have hol:out.length≤1024:=hRl rfl;refine⟨zdU out,zun trivial rfl (by omega),?_⟩;rw[if_pos (by trivial)]
 |
  false =>
  (repeat first|simp(disch:=try exact dis1) only[evD,Nat.reduceBEq,Nat.reduceAdd,Nat.reduceLeDiff,zcg]|with_reducible first|intro _|refine aJ ?_)
  rw[if_neg (by decide)];exact retE _ _ _ rfl
def zig:List Int→List Int→Bool
 | [],[]=>false
 | [],_::_=>true
 | _::_,[]=>false
 | x::a,y::b=>if x=y then zig a b else decide (x < y)
theorem zfb:∀a:List Int,zig a a=false
 | []=>rfl
 | x::a=>by rw[zig,if_pos rfl];exact zfb a
theorem zkP:∀ {a b c:List Int},zig a b=true→zig b c=true→zig a c=true
 | [],[],c,h,_=>by cases h
 | [],y::b,[],_,h=>by cases h
 | [],y::b,z::c,_,_=>rfl
 | x::a,[],c,h,_=>by cases h
 | x::a,y::b,[],_,h=>by cases h
 |
  x::a,y::b,z::c,h,k=>by
  rw[zig] at h k ⊢
  by_cases h1:x=y
  ·
   subst h1;rw[if_pos rfl] at h
   by_cases h2:x=z
   · subst h2;rw[if_pos rfl] at k ⊢;exact zkP h k
   · rw[if_neg h2] at k ⊢;exact k
  ·
   rw[if_neg h1,decide_eq_true_eq] at h
   by_cases h2:y=z
   · subst h2;rw[if_neg h1,decide_eq_true_eq];exact h
   · rw[if_neg h2,decide_eq_true_eq] at k;rw[if_neg (by omega),decide_eq_true_eq];omega
theorem znT:∀ {a b:List Int},a≠b→zig a b=true∨zig b a=true
 | [],[],h=>absurd rfl h
 | [],_::_,_=>.inl rfl
 | _::_,[],_=>.inr rfl
 |
  x::a,y::b,h=>by
  rw[zig,zig]
  by_cases h1:x=y
  ·
   subst h1;rw[if_pos rfl,if_pos rfl]
   exact znT fun e=>h (by rw[e])
  · rw[if_neg h1,if_neg (Ne.symm h1),decide_eq_true_eq,decide_eq_true_eq];omega
theorem zrS:∀(p:List Int) {a b:Int} {x y:List Int},a < b→zig (p++a::x) (p++b::y)=true
 |
  [],a,b,x,y,h=>by
  show zig (a::x) (b::y)=true;rw[zig,if_neg (by omega),decide_eq_true_eq];exact h
 |
  z::p,a,b,x,y,h=>by
  show zig (z::(p++a::x)) (z::(p++b::y))=true;rw[zig,if_pos rfl];exact zrS p h
def Asc (l:List (List Int)):Prop:=l.Pairwise fun a b=>zig a b=true
theorem zBi:∀ {l m:List (List Int)},Asc l→Asc m→(∀x,x∈l↔x∈m)→l=m
 | [],[],_,_,_=>rfl
 | [],b::m,_,_,h=>by have:=(h b).2 (by simp);cases this
 | a::l,[],_,_,h=>by have:=(h a).1 (by simp);cases this
 |
  a::l,b::m,hl,hm,h=>by
  have hl':=Wf.1 hl;have hm':=Wf.1 hm
  have hab:a=b:=by
   refine Classical.byContradiction fun hne=>?_
   have h1:a∈m:=by
    rcases Wa.1 ((h a).1 (by simp)) with h1|h1
    · exact absurd h1 hne
    · exact h1
   have h2:b∈l:=by
    rcases Wa.1 ((h b).2 (by simp)) with h2|h2
    · exact absurd h2.symm hne
    · exact h2
   have h3:=zkP (hl'.1 b h2) (hm'.1 a h1);rw[zfb] at h3;cases h3
  subst hab
  congr 1
  refine zBi hl'.2 hm'.2 fun x=>⟨fun hx=>?_,fun hx=>?_⟩
  ·
   rcases Wa.1 ((h x).1 (by simp[hx])) with h1|h1
   · subst h1;have:=hl'.1 _ hx;rw[zfb] at this;cases this
   · exact h1
  ·
   rcases Wa.1 ((h x).2 (by simp[hx])) with h1|h1
   · subst h1;have:=hm'.1 _ hx;rw[zfb] at this;cases this
   · exact h1
def zdp:List (List Int)→List Int→List (List Int)
 | [],a=>[a]
 | x::l,a=>if zig x a then x::zdp l a else if x=a then x::l else a::x::l
theorem zjq:∀ {l:List (List Int)} {a x:List Int},x∈zdp l a↔x∈l∨x=a
 | [],a,x=>by simp[zdp]
 |
  y::l,a,x=>by
  rw[zdp];split
  · rw[Wa,zjq,Wa,or_assoc]
  ·
   split
   ·
    rename_i h;subst h;rw[Wa];constructor
    · intro h;exact .inl h
    ·
     rintro(h|h)
     · exact h
     · exact .inl h
   · rw[Wa,or_comm]
theorem zmu:∀ {l:List (List Int)} {a:List Int},Asc l→Asc (zdp l a)
 | [],a,_=>by simp[zdp,Asc]
 |
  y::l,a,h=>by
  have h':=Wf.1 h;rw[zdp];split
  ·
   rename_i h1;refine Wf.2 ⟨fun z hz=>?_,zmu h'.2⟩
   rcases zjq.1 hz with hz|rfl
   · exact h'.1 z hz
   · exact h1
  ·
   rename_i h1;split
   · exact h
   ·
    rename_i h2;refine Wf.2 ⟨fun z hz=>?_,h⟩
    have h3:zig a y=true:=by
     rcases znT h2 with h3|h3
     · exact absurd h3 h1
     · exact h3
    rcases Wa.1 hz with rfl|hz
    · exact h3
    · exact zkP h3 (h'.1 z hz)
theorem zlk:∀(xs l:List (List Int)),Asc l→Asc (xs.foldl zdp l)∧∀x,x∈xs.foldl zdp l↔x∈l∨x∈xs
 | [],l,h=>⟨h,fun x=>by simp⟩
 |
  a::xs,l,h=>by
  rw[List.foldl_cons];obtain⟨h1,h2⟩:=zlk xs (zdp l a) (zmu h);refine⟨h1,fun x=>?_⟩;rw[h2,zjq,Wa,or_assoc]
theorem zoE {l:List Int} (hs:l.Pairwise (·≤·)):(zab l).Pairwise (· < ·):=by
 unfold zab zaE Dm.filR;rw[List.pairwise_map]
 have h1:((List.range l.length).filter (ze0 l)).Pairwise fun a b=>a < b:=List.Pairwise.filter _ List.pairwise_lt_range
 refine List.Pairwise.imp_of_mem (fun {a b} ha hb hab=>?_) h1;have hb':=Wx.1 hb;have hbl:=Wk.1 hb'.1
 have hal:a < l.length:=by omega
 have e1:l.getD a 0=l[a]:=by simp[Wn,hal]
 have e2:l.getD b 0=l[b]:=by simp[Wn,hbl]
 rw[e1,e2];have hk:=hb'.2;rw[zeX (by omega) hbl] at hk;have hp:=List.pairwise_iff_getElem.1 hs;have h3:l[b - 1]≤l[b]:=hp (b - 1) b (by omega) hbl (by omega)
 have h4:l[b]≠l[b - 1]:=by simpa using hk
 have h5:l[a]≤l[b - 1]:=by
  rcases Nat.eq_or_lt_of_le (show a≤b - 1 by omega) with h|h
  · simp only[h];exact Int.le_refl _
  · exact hp a (b - 1) hal (by omega) h
 omega
theorem ztE {l:List Int} (hs:l.Pairwise (·≤·)) {x:Int} (hx:x∈l):x∈zab l:=by
 obtain⟨i,hi,rfl⟩:=List.mem_iff_getElem.1 hx
 have key:∀k,∀i (h:i < l.length),i≤k→l[i]∈zab l:=by
  intro k
  induction k with
  |
   zero =>
   intro i h hk
   obtain rfl:i=0:=by omega
   unfold zab zaE Dm.filR;refine Wi.2 ⟨0,Wx.2 ⟨Wk.2 h,rfl⟩,by simp[Wn,h]⟩
  |
   succ k ih =>
   intro i h hk
   by_cases h0:i=0
   · exact ih i h (by omega)
   ·
    by_cases he:l[i]=l[i - 1]
    · rw[he];exact ih (i - 1) (by omega) (by omega)
    ·
     unfold zab zaE Dm.filR;refine Wi.2 ⟨i,Wx.2 ⟨Wk.2 h,?_⟩,by simp[Wn,h]⟩;rw[zeX (by omega) h]
     simpa using he
 exact key i i hi (Wo _)
theorem zhC {l:List Int} {x:Int}:x∈zab (zgx l)↔x∈l:=⟨fun h=>(zch l).mem_iff.1 (zmJ h),fun h=>ztE (zdC l) ((zch l).mem_iff.2 h)⟩
def zqS (g:G) (p:List Int):List Int:=zab (zgx (zc0 g p))
def allP (g:G):Nat→List Int→List (List Int)
 | 0,p=>[p]
 | n+1,p=>if (zc0 g p).length=0 then [p] else (zqS g p).flatMap fun b=>allP g n (p++[b])
def extC (g:G) (p:List Int):List (List Int):=if (zc0 g p).length=0 then [p] else (zqS g p).map fun b=>p++[b]
def extU (g:G) (p:List Int):List (List Int):=if p.length=0 then [[0]] else if (zc0 g p).length=0 then [p] else (zc0 g p).map fun b=>p++[b]
def zqK (g:G) (l:List (List Int)):List (List Int):=(l.flatMap (extU g)).foldl zdp []
def zlJ (g:G):Nat→List (List Int)→List (List Int)
 | 0,l=>l
 | n+1,l=>if 1024 < (zqK g l).length then [] else if l=zqK g l then l else zlJ g n (zqK g l)
theorem zqz (g:G):∀(n:Nat) (p:List Int),allP g (n+1) p=(allP g n p).flatMap (extC g)
 |
  0,p=>by
  rw[allP,allP];simp only[Wg,WB,Wu,extC];split
  · rfl
  ·
   simp only[allP,List.flatMap_singleton']
   induction zqS g p with
   | nil=>rfl
   | cons a l ih=>rw[Wg,List.map_cons,ih];rfl
 |
  n+1,p=>by
  rw[allP]
  by_cases h:(zc0 g p).length=0
  · rw[if_pos h,allP,if_pos h];simp only[Wg,WB,Wu,extC,if_pos h]
  ·
   rw[if_neg h]
   conv=>rhs;rw[allP,if_neg h]
   rw[List.flatMap_assoc]
   congr 1
   funext b
   exact zqz g n (p++[b])
theorem znf (g:G):∀(n:Nat) (p x:List Int),x∈allP g n p→∃y,x=p++y
 |
  0,p,x,h=>by
  rw[allP,Ww] at h;exact⟨[],by simp[h]⟩
 |
  n+1,p,x,h=>by
  rw[allP] at h;split at h
  · rw[Ww] at h;exact⟨[],by simp[h]⟩
  · obtain⟨b,_,hx⟩:=Wp.1 h;obtain⟨y,hy⟩:=znf g n (p++[b]) x hx;exact⟨b::y,by rw[hy];simp⟩
theorem zq8 (g:G):∀(n:Nat) (p:List Int),Asc (allP g n p)
 | 0,p=>by rw[allP];simp[Asc]
 |
  n+1,p=>by
  rw[allP];split
  · simp[Asc]
  ·
   have hc:(zqS g p).Pairwise (· < ·):=zoE (zdC _);unfold Asc;generalize zqS g p=C at hc
   induction C with
   | nil=>simp
   |
    cons b C ih =>
    have hc':=Wf.1 hc;rw[Wg,List.pairwise_append];refine⟨zq8 g n (p++[b]),ih hc'.2,fun x hx y hy=>?_⟩;obtain⟨c,hcm,hy⟩:=Wp.1 hy;obtain⟨x',rfl⟩:=znf g n _ _ hx;obtain⟨y',rfl⟩:=znf g n _ _ hy;rw[Wm,Wm];exact zrS p (hc'.1 c hcm)
theorem zwG (g:G) (n:Nat) {p x:List Int} (hp:p.length≠0) (h:x∈allP g n p):x.length≠0:=by obtain⟨y,rfl⟩:=znf g n p x h;simp only[We];omega
theorem zw3 (g:G) {p x:List Int} (hp:p.length≠0):x∈extC g p↔x∈extU g p:=by
 unfold extC extU;rw[if_neg hp];split
 · rfl
 ·
  rw[Wi,Wi];unfold zqS;constructor
  · rintro⟨b,hb,rfl⟩;exact⟨b,zhC.1 hb,rfl⟩
  · rintro⟨b,hb,rfl⟩;exact⟨b,zhC.2 hb,rfl⟩
def lvl (g:G):Nat→List (List Int)
 | 0=>[[]]
 | n+1=>allP g n [0]
theorem zme (g:G):∀n,zqK g (lvl g n)=lvl g (n+1)
 | 0=>rfl
 |
  n+1=>by
  have h:=zlk ((allP g n [0]).flatMap (extU g)) [] (by simp[Asc])
  refine zBi h.1 (zq8 g (n+1) [0]) fun x=>?_
  show x∈List.foldl zdp [] (List.flatMap (extU g) (lvl g (n+1)))↔_;rw[show lvl g (n+1)=allP g n [0] from rfl,h.2,show lvl g (n+1+1)=allP g (n+1) [0] from rfl,zqz];simp only[List.not_mem_nil,false_or];rw[Wp,Wp];constructor
  · rintro⟨q,hq,hx⟩;exact⟨q,hq,(zw3 g (zwG g n (by simp) hq)).2 hx⟩
  · rintro⟨q,hq,hx⟩;exact⟨q,hq,(zw3 g (zwG g n (by simp) hq)).1 hx⟩
theorem zzu (g:G) (p:List Int):1≤(extC g p).length:=by
 unfold extC;split
 · simp
 ·
  rename_i h;rw[List.length_map]
  have:zc0 g p≠[]:=fun e=>h (by simp[e])
  obtain⟨a,ha⟩:=List.exists_mem_of_ne_nil _ this;exact List.length_pos_of_mem (zhC.2 ha)
theorem zoH {f:List Int→List (List Int)} (hf:∀p,1≤(f p).length):∀l:List (List Int),l.length≤(l.flatMap f).length
 | []=>Wo _
 |
  a::l=>by
  rw[Wg,We,Wl];have:=hf a;have:=zoH hf l;omega
theorem zBX (g:G):∀n,(lvl g n).length≤(lvl g (n+1)).length
 | 0=>by simp[lvl,allP]
 |
  n+1=>by
  show (allP g n [0]).length≤(allP g (n+1) [0]).length;rw[zqz];exact zoH (zzu g) _
theorem zqN (g:G) (n:Nat):∀k,(lvl g n).length≤(lvl g (n+k)).length
 | 0=>Wo _
 | k+1=>Wd (zqN g n k) (zBX g (n+k))
theorem zvf (g:G) {n:Nat} (h:lvl g n=lvl g (n+1)):∀k,lvl g (n+k)=lvl g n
 | 0=>rfl
 |
  k+1=>by
  rw[←Nat.add_assoc,←zme,zvf g h k,zme,h]
theorem zjg (g:G):∀(k n:Nat),(lvl g n).length≤1024→zlJ g k (lvl g n)=if (lvl g (n+k)).length≤1024 then lvl g (n+k) else []
 | 0,n,h=>by rw[zlJ,Nat.add_zero,if_pos h]
 |
  k+1,n,h=>by
  rw[zlJ,zme];have hm:=zqN g (n+1) k;rw[show n+1+k=n+(k+1) by omega] at hm
  by_cases h1:1024 < (lvl g (n+1)).length
  · rw[if_pos h1,if_neg (by omega)]
  ·
   rw[if_neg h1]
   by_cases h2:lvl g n=lvl g (n+1)
   · rw[if_pos h2,zvf g h2 (k+1),if_pos h]
   · rw[if_neg h2,zjg g k (n+1) (by omega),show n+1+k=n+(k+1) by omega]
theorem znm (g:G) (f:Nat) {rec:List Int→List (List Int)→Bool × List (List Int)} (path:List Int) (hrec:∀(b:Int) (out:List (List Int)),out.length≤1024→if out.length+(allP g f (path++[b])).length≤1024 then rec (path++[b]) out=(true,out++allP g f (path++[b])) else (rec (path++[b]) out).1=false) :
  ∀(l:List Int) (out:List (List Int)),out.length≤1024→if out.length+(l.flatMap fun b=>allP g f (path++[b])).length≤1024 then zc5 rec l path out=(true,out++l.flatMap fun b=>allP g f (path++[b])) else (zc5 rec l path out).1=false
 |
  [],out,ho=>by
  rw[if_pos (by simpa using ho),zc5];simp
 |
  b::l,out,ho=>by
  rw[zc5,Wg,We];have h:=hrec b out ho
  by_cases h1:out.length+(allP g f (path++[b])).length≤1024
  ·
   rw[if_pos h1] at h;rw[h];have ih:=znm g f path hrec l (out++allP g f (path++[b])) (by simpa using h1);rw[We] at ih;simp only[if_true]
   by_cases h2:out.length+((allP g f (path++[b])).length+(l.flatMap fun b=>allP g f (path++[b])).length)≤1024
   · rw[if_pos (by omega)] at ih;rw[if_pos h2,ih,Wm]
   · rw[if_neg (by omega)] at ih;rw[if_neg h2];exact ih
  · rw[if_neg h1] at h;rw[if_neg (by omega),h];simp
theorem zn8 (g:G) (most:Int):∀(f:Nat) (path:List Int) (out:List (List Int)),(path.length:Int)+f=most→out.length≤1024→if out.length+(allP g f path).length≤1024 then zaL g most f path out=(true,out++allP g f path) else (zaL g most f path out).1=false
 |
  0,path,out,hf,ho=>by
  have he:endF g most path:=.inr (by omega);rw[zaL,if_pos he,allP]
  by_cases h:out.length+[path].length≤1024
  ·
   rw[if_pos h]
   have:out.length+1≤1024:=by simpa using h
   rw[decide_eq_true this]
  ·
   rw[if_neg h]
   have:¬out.length+1≤1024:=by simpa using h
   exact decide_eq_false this
 |
  f+1,path,out,hf,ho=>by
  rw[zaL,allP]
  by_cases h0:(zc0 g path).length=0
  ·
   have he:endF g most path:=.inl h0;rw[if_pos he,if_pos h0]
   by_cases h:out.length+[path].length≤1024
   ·
    rw[if_pos h]
    have:out.length+1≤1024:=by simpa using h
    rw[decide_eq_true this]
   ·
    rw[if_neg h]
    have:¬out.length+1≤1024:=by simpa using h
    exact decide_eq_false this
  ·
   have he:¬endF g most path:=fun h=>by
    rcases h with h|h
    · exact h0 h
    · omega
   rw[if_neg he,if_neg h0];exact znm g f path (fun b out ho=>zn8 g most f (path++[b]) out (by simp;omega) ho) _ out ho
theorem zvP (g:G) (most:Int):ziC g most=if zbi g≠0 then [] else if 65536 < most then [] else zlJ g most.toNat [[]]:=by
 unfold ziC;split
 · rfl
 split
 · rfl
 have h0:=zjg g most.toNat 0 (by simp[lvl]);rw[show lvl g 0=[[]] from rfl,Wv] at h0;rw[h0];split
 · rename_i h;rw[show most.toNat=0 by omega];simp[lvl]
 ·
  rename_i h;obtain⟨m,hm⟩:∃m,most.toNat=m+1:=⟨most.toNat - 1,by omega⟩;rw[hm,Nat.add_sub_cancel];have h1:=zn8 g most m [0] [] (by simp;omega) (by simp);rw[Wh,Wv,Wt] at h1
  show _=if (allP g m [0]).length≤1024 then allP g m [0] else []
  by_cases h2:(allP g m [0]).length≤1024
  · rw[if_pos h2] at h1;rw[if_pos h2,h1];rfl
  · rw[if_neg h2] at h1;rw[if_neg h2,h1];rfl
def zdd:ACode:=.seq (.seq (.region [ (oM 69 12),(oM 70 11),(oB 71 .lss 69 70)] [69,70]) (.cond (.t 71) (.skip) (.exit 2))) (.seq (.block 3 (.seq (.draw ( .step (oM 74 9) ( .step (oM 75 11) ( .step (oI 76 1 74 75) ( .step (oL 77 76) ( .step (oM 78 9) ( .step (oM 79 12) ( .step (oI 80 1 78 79) ( .step (oL 81 80) ( .step (oN 82 (.callq zau [(.t 77),(.t 81)])) ( .done)))))))))) [71,74,75,76,77,78,79,80,81]) (.cond (.t 82) (.seq (.region [ Yao] [7,9,10,11,12,82]) (.ret)) (.skip)))) (.region [ (oM 72 12),(oC 73 .add 72 1),(oM 12 73)] [6,72,73,82]))
def zdj:ACode:=.region [ (oM 58 11),(oC 59 .add 58 1),(oM 11 59)] [12,58,59]
def zdi:ACode:=.seq (.seq (.region [ (oM 54 11),(oM 55 9),(oE 56 55),(oB 57 .lss 54 56)] [54,55,56]) (.cond (.t 57) (.skip) (.exit 0))) (.seq (.block 1 (.seq (.region [ (oM 60 10),(oM 61 60),(oG 62 61 false (.mov (.t 9))),(oG 63 61 false (.mov (.t 11))),(oG 64 61 false (.idx 1 (.t 62) (.t 63))),(oG 65 61 false (.load false 1 (.t 64))),(oG 66 61 false (.mov (.t 7))),(oG 67 61 false (.call zau [(.t 65),(.t 66)])),(oN 68 (.pick (.t 61) (.c (.bool true)) (.t 67))),(oM 10 68)] [57,60,61,62,63,64,65,66,67,68]) (.seq (.region [ (oK 12 0)] []) (.block 2 (.loop zdd))))) (zdj))
def zdf:ACode:=.seq (.region [ (oM 83 10),(oM 84 83),(oG 85 84 true (.call zcr [])),(oN 86 (.pick (.t 84) (.t 85) (.c (.bool false)))),(oM 6 86)] [7,9,10,11,83,84,85,86]) (.ret)
def zeu:ACode:=.seq (.region [ (oN 3 (.rbox (.t 0))),Yao] [0,6]) (.seq (.seq (.region [ (oA 13 2 3),(oM 14 1),(oM 15 2),(oN 16 (.call zk0 [(.t 13),(.t 14),(.t 15)])),(oN 17 (.un .not (.t 16))),(oM 18 17),(oG 19 18 false (.mov (.t 2))),(oG 20 18 false (.bin .gtr (.t 19) (.c (.int .i64 8)))),(oN 21 (.pick (.t 18) (.c (.bool true)) (.t 20))),(oM 22 21),(oG 23 22 false (.load true 2 (.t 3))),(oG 24 22 false (.call zfn [(.t 23)])),(oG 25 22 false (.bin .neq (.t 24) (.c (.int .i64 0)))),(oN 26 (.pick (.t 22) (.c (.bool true)) (.t 25)))] [13,14,15,16,17,18,19,20,21,22,23,24,25]) (.cond (.t 26) (.seq (.region [ (oN 27 (.call zcr [])),(oM 6 27)] [1,2,3,26,27]) (.ret)) (.skip))) (.seq (.region [ (oA 29 2 3),(oM 30 1),(oM 31 2),(oN 32 (.call zba [(.t 29),(.t 30),(.t 31)])),(oM 28 32),(oT 33 0 28),(oT 34 1 28),(oM 7 33),(oM 8 34)] [1,6,26,28,29,30,31,32,33,34]) (.seq (.region [ (oA 35 2 3),(oM 36 2),(oN 37 (.call zdL [(.t 35),(.t 36)])),(oM 9 37)] [2,35,36,37]) (.seq (.seq (.region [ (oM 38 8),(oC 39 .neq 38 0),(oM 40 39),(oG 41 40 false (.mov (.t 9))),(oG 42 40 false (.len (.t 41))),(oG 43 40 false (.bin .eql (.t 42) (.c (.int .i64 0)))),(oG 44 40 false (.mov (.t 43))),(oG 45 44 true (.fldaddr 1 1 (.t 3))),(oG 46 44 true (.load false 1 (.t 45))),(oG 47 44 true (.len (.t 46))),(oG 48 44 true (.bin .leq (.t 47) (.c (.int .i64 2)))),(oG 49 40 false (.pick (.t 44) (.t 48) (.c (.bool false)))),(oN 50 (.pick (.t 40) (.c (.bool true)) (.t 49)))] [3,8,38,39,40,41,42,43,44,45,46,47,48,49]) (.cond (.t 50) (.seq (.region [ Yao] [7,9,50]) (.ret)) (.skip))) (.seq (.region [ (oM 51 9),(oE 52 51),(oC 53 .eql 52 0),(oM 10 53)] [6,50,51,52,53]) (.seq (.seq (.region [ (oK 11 0)] []) (.block 0 (.loop zdi))) (zdf)))))))
def zaR:List ARet:=[.tmp 6]
theorem ziX:zT Tryz.prog ze8 (qRo [3])=some (zeu.strip,zaR,87):=by kernel_rfl
def zgL:ACode:=.seq (.region [ (oN 0 (.mov (.c (.bool false))))] [0]) (.seq (.region [ (oN 18 (.call zgY [(.c (.int .i64 1)),(.c (.int .i64 2))])),(oN 19 (.call zcG [(.t 18)])),(oN 20 (.build [.int .i64 0,.int .i64 0,.int .i64 0,.int .i64 0,.int .i64 0,.int .u32 0,.nilsl,.nilsl] [(0,1,(.c (.int .i64 6))),(3,1,(.c (.int .i64 3)))])),(oN 21 (.call zcG [(.t 20)])),(oN 22 (.build [.int .i64 0,.int .i64 0,.int .i64 0,.int .i64 0,.int .i64 0,.int .u32 0,.nilsl,.nilsl] [(0,1,(.c (.int .i64 6))),(3,1,(.c (.int .i64 3)))])),(oN 23 (.call zcG [(.t 22)])),(oN 24 (.build [.int .i64 0,.int .i64 0,.int .i64 0,.int .i64 0,.int .i64 0,.int .u32 0,.nilsl,.nilsl] [(0,1,(.c (.int .i64 9)))])),(oN 25 (.call zcG [(.t 24)])),(oN 26 (.rbuildSl 2 4 [.int .u32 0,.nilsl] [(0,(.t 19)),(1,(.t 21)),(2,(.t 23)),(3,(.t 25))])),(oN 27 (.build [.int .u32 0,.nilsl] [(1,1,(.t 26))])),(oN 1 (.alloc [.int .u32 0,.nilsl])),(oS 2 1 27)] [18,19,20,21,22,23,24,25,26,27]) (.seq (.region [ (oN 28 (.build [.int .i64 0,.int .i64 0,.int .i64 0,.int .i64 0,.int .i64 0,.int .u32 0,.nilsl,.nilsl] [(0,1,(.c (.int .i64 6))),(3,1,(.c (.int .i64 1)))])),(oN 29 (.call zcG [(.t 28)])),(oN 30 (.call zgY [(.c (.int .i64 2)),(.c (.int .i64 3))])),(oN 31 (.call zcG [(.t 30)])),(oN 32 (.build [.int .i64 0,.int .i64 0,.int .i64 0,.int .i64 0,.int .i64 0,.int .u32 0,.nilsl,.nilsl] [(0,1,(.c (.int .i64 6))),(3,1,(.c (.int .i64 1)))])),(oN 33 (.call zcG [(.t 32)])),(oN 34 (.build [.int .i64 0,.int .i64 0,.int .i64 0,.int .i64 0,.int .i64 0,.int .u32 0,.nilsl,.nilsl] [(0,1,(.c (.int .i64 10)))])),(oN 35 (.call zcG [(.t 34)])),(oN 36 (.rbuildSl 2 4 [.int .u32 0,.nilsl] [(0,(.t 29)),(1,(.t 31)),(2,(.t 33)),(3,(.t 35))])),(oN 37 (.build [.int .u32 0,.nilsl] [(1,1,(.t 36))])),(oN 2 (.alloc [.int .u32 0,.nilsl])),(oS 2 2 37)] [28,29,30,31,32,33,34,35,36,37]) (.seq (.region [ (oA 39 2 1),(oN 40 (.call zba [(.t 39),(.c (.nilsl)),(.c (.int .i64 9))])),(oM 38 40),(oT 41 0 38),(oT 42 1 38),(oM 3 41),(oM 4 42)] [38,39,40,41,42]) (.seq (.region [ (oA 44 2 1),(oN 45 (.rbuildSl 1 1 [.int .u32 0] [(0,(.c (.int .u32 3)))])),(oN 46 (.call zba [(.t 44),(.t 45),(.c (.int .i64 9))])),(oM 43 46),(oT 47 0 43),(oT 48 1 43),(oM 5 47),(oM 6 48)] [6,43,44,45,46,47,48]) (.seq (.region [ (oA 50 2 1),(oN 51 (.call zba [(.t 50),(.c (.nilsl)),(.c (.int .i64 2))])),(oM 49 51),(oT 52 0 49),(oT 53 1 49),(oM 7 52),(oM 8 53)] [8,49,50,51,52,53]) (.seq (.region [ (oA 55 2 2),(oN 56 (.rbuildSl 1 3 [.int .u32 0] [(0,(.c (.int .u32 0))),(1,(.c (.int .u32 0))),(2,(.c (.int .u32 1)))])),(oN 57 (.call zba [(.t 55),(.t 56),(.c (.int .i64 20))])),(oM 54 57),(oT 58 0 54),(oT 59 1 54),(oM 9 58),(oM 10 59)] [2,54,55,56,57,58,59]) (.seq (.region [ (oA 60 2 1),(oN 61 (.call zdL [(.t 60),(.c (.int .i64 9))])),(oM 11 61)] [1,60,61]) (.seq (.region [ (oN 62 (.build [.int .i64 0,.int .i64 0,.int .i64 0,.int .i64 0,.int .i64 0,.int .u32 0,.nilsl,.nilsl] [(0,1,(.c (.int .i64 10)))])),(oN 63 (.call zcG [(.t 62)])),(oN 64 (.rbuildSl 2 1 [.int .u32 0,.nilsl] [(0,(.t 63))])),(oN 65 (.build [.int .u32 0,.nilsl] [(1,1,(.t 64))])),(oN 12 (.alloc [.int .u32 0,.nilsl])),(oS 2 12 65)] [62,63,64,65]) (.seq (.region [ (oN 66 (.build [.int .i64 0,.int .i64 0,.int .i64 0,.nilsl,.nilsl] [(0,1,(.c (.int .i64 1)))])),(oN 67 (.rbuildSl 5 1 [.int .i64 0,.int .i64 0,.int .i64 0,.nilsl,.nilsl] [(0,(.t 66))])),(oN 68 (.build [.int .i64 0,.int .i64 0,.int .i64 0,.nilsl,.nilsl] [(0,1,(.c (.int .i64 4))),(4,1,(.t 67))])),(oN 69 (.build [.int .i64 0,.int .i64 0,.int .i64 0,.nilsl,.nilsl] [(0,1,(.c (.int .i64 2)))])),(oN 70 (.rbuildSl 5 2 [.int .i64 0,.int .i64 0,.int .i64 0,.nilsl,.nilsl] [(0,(.t 68)),(1,(.t 69))])),(oN 71 (.build [.int .i64 0,.int .i64 0,.int .i64 0,.nilsl,.nilsl] [(0,1,(.c (.int .i64 1))),(4,1,(.t 70))])),(oN 13 (.alloc [.int .i64 0,.int .i64 0,.int .i64 0,.nilsl,.nilsl])),(oS 5 13 71)] [66,67,68,69,70,71]) (.seq (.region [ (oA 73 5 13),(oA 74 2 12),(oN 75 (.call ze5 [(.t 73),(.t 74),(.c (.nilsl)),(.c (.int .i64 5))])),(oM 72 75),(oT 76 0 72),(oT 77 1 72),(oM 14 76),(oM 15 77)] [13,14,72,73,74,75,76,77]) (.seq (.region [ (oN 79 (.build [.int .i64 0,.int .i64 0,.int .i64 0,.nilsl,.nilsl] [(0,1,(.c (.int .i64 2)))])),(oA 80 2 12),(oN 81 (.call ze5 [(.t 79),(.t 80),(.c (.nilsl)),(.c (.int .i64 5))])),(oM 78 81),(oT 82 0 78),(oT 83 1 78),(oM 16 82),(oM 17 83)] [12,78,79,80,81,82,83]) (.seq (.region [ (oM 84 4),(oC 85 .eql 84 0),(oM 86 85),(oG 87 86 true (.mov (.t 3))),(oG 88 86 true (.rbuildSl 1 3 [.int .i64 0] [(0,(.c (.int .i64 0))),(1,(.c (.int .i64 1))),(2,(.c (.int .i64 3)))])),(oG 89 86 true (.call zau [(.t 87),(.t 88)])),(oN 90 (.pick (.t 86) (.t 89) (.c (.bool false)))),(oM 91 90),(oG 92 91 true (.mov (.t 5))),(oG 93 91 true (.rbuildSl 1 3 [.int .i64 0] [(0,(.c (.int .i64 0))),(1,(.c (.int .i64 2))),(2,(.c (.int .i64 3)))])),(oG 94 91 true (.call zau [(.t 92),(.t 93)])),(oN 95 (.pick (.t 91) (.t 94) (.c (.bool false)))),(oM 96 95),(oG 97 96 true (.mov (.t 7))),(oG 98 96 true (.rbuildSl 1 2 [.int .i64 0] [(0,(.c (.int .i64 0))),(1,(.c (.int .i64 1)))])),(oG 99 96 true (.call zau [(.t 97),(.t 98)])),(oN 100 (.pick (.t 96) (.t 99) (.c (.bool false)))),(oM 101 100),(oG 102 101 true (.mov (.t 10))),(oG 103 101 true (.bin .eql (.t 102) (.c (.int .i64 0)))),(oN 104 (.pick (.t 101) (.t 103) (.c (.bool false)))),(oM 105 104),(oG 106 105 true (.mov (.t 9))),(oG 107 105 true (.rbuildSl 1 7 [.int .i64 0] [(0,(.c (.int .i64 0))),(1,(.c (.int .i64 1))),(2,(.c (.int .i64 2))),(3,(.c (.int .i64 1))),(4,(.c (.int .i64 2))),(5,(.c (.int .i64 1))),(6,(.c (.int .i64 3)))])),(oG 108 105 true (.call zau [(.t 106),(.t 107)])),(oN 109 (.pick (.t 105) (.t 108) (.c (.bool false)))),(oM 110 109),(oG 111 110 true (.mov (.t 11))),(oG 112 110 true (.len (.t 111))),(oG 113 110 true (.bin .eql (.t 112) (.c (.int .i64 2)))),(oN 114 (.pick (.t 110) (.t 113) (.c (.bool false)))),(oM 115 114),(oG 116 115 true (.mov (.t 11))),(oG 117 115 true (.idx 1 (.t 116) (.c (.int .i64 1)))),(oG 118 115 true (.load false 1 (.t 117))),(oG 119 115 true (.rbuildSl 1 3 [.int .i64 0] [(0,(.c (.int .i64 0))),(1,(.c (.int .i64 2))),(2,(.c (.int .i64 3)))])),(oG 120 115 true (.call zau [(.t 118),(.t 119)])),(oN 121 (.pick (.t 115) (.t 120) (.c (.bool false)))),(oM 122 121),(oG 123 122 true (.mov (.t 15))),(oG 124 122 true (.bin .eql (.t 123) (.c (.int .i64 15)))),(oN 125 (.pick (.t 122) (.t 124) (.c (.bool false)))),(oM 126 125),(oG 127 126 true (.mov (.t 17))),(oG 128 126 true (.bin .eql (.t 127) (.c (.int .i64 0)))),(oN 129 (.pick (.t 126) (.t 128) (.c (.bool false)))),(oM 130 129),(oG 131 130 true (.mov (.t 16))),(oG 132 130 true (.rbuildSl 1 1 [.int .i64 0] [(0,(.c (.int .i64 0)))])),(oG 133 130 true (.call zau [(.t 131),(.t 132)])),(oN 134 (.pick (.t 130) (.t 133) (.c (.bool false)))),(oM 0 134)] [3,4,5,7,9,10,11,15,16,17,84,85,86,87,88,89,90,91,92,93,94,95,96,97,98,99,100,101,102,103,104,105,106,107,108,109,110,111,112,113,114,115,116,117,118,119,120,121,122,123,124,125,126,127,128,129,130,131,132,133,134]) (.ret)))))))))))))
def zaz:List ARet:=[.tmp 0]
theorem zkZ:zT Tryz.prog zcr (qRo [26,36,45,56,64,67,70,88,93,98,107,119,132])=some (zgL.strip,zaz,135):=by kernel_rfl
def zpt:ACode:=.seq (.region [ Yab,(oN 2 (.alloc [.int .u32 0,.nilsl]))] [0]) (.seq (.region [ (oA 3 8 1),(oN 4 (.rbuildSl 8 1 [.int .i64 0,.int .i64 0,.int .i64 0,.int .i64 0,.int .i64 0,.int .u32 0,.nilsl,.nilsl] [(0,(.t 3))])),(oN 5 (.build [.int .u32 0,.nilsl] [(1,1,(.t 4))])),(oS 2 2 5)] [1,3,4,5]) (.ret))
def zp1:List ARet:=[.cell 2 true 2]
theorem zv0:zT Tryz.prog zcG (qRo [1,4])=some (zpt.strip,zp1,6):=by kernel_rfl
def zlH:ACode:=.seq (.region [ (oN 4 (.alloc [.int .i64 0,.int .i64 0,.int .i64 0,.int .i64 0,.int .i64 0,.int .u32 0,.nilsl,.nilsl]))] []) (.seq (.region [ (oN 5 (.build [.int .i64 0,.int .u32 0,.int .i64 0,.int .i64 0,.nilsl] [(0,1,(.c (.int .i64 2)))])),(oN 6 (.rbuildSl 5 1 [.int .i64 0,.int .u32 0,.int .i64 0,.int .i64 0,.nilsl] [(0,(.t 5))])),(oM 7 0),(oM 8 1),(oN 9 (.build [.int .i64 0,.int .i64 0,.int .i64 0,.int .i64 0,.int .i64 0,.int .u32 0,.nilsl,.nilsl] [(0,1,(.c (.int .i64 7))),(6,1,(.t 6)),(3,1,(.t 7)),(4,1,(.t 8))])),(oS 8 4 9)] [0,1,5,6,7,8,9]) (.ret))
def zlx:List ARet:=[.cell 4 true 8]
theorem zqM:zT Tryz.prog zgY (qRo [6])=some (zlH.strip,zlx,10):=by kernel_rfl
def zmG:ACode:=.seq (.region [ (oN 3 (.rbox (.t 0))),Yao] [0,6]) (.seq (.region [ (oF 7 1 1 3),(oL 8 7),(oE 9 8),(oC 10 .leq 9 20),(oM 11 10),(oG 12 11 true (.load true 2 (.t 3))),(oG 13 11 true (.call zfm [(.t 12),(.c (.int .i64 8))])),(oN 14 (.pick (.t 11) (.t 13) (.c (.bool false)))),(oM 15 14),(oG 16 15 true (.mov (.t 1))),(oG 17 15 true (.len (.t 16))),(oG 18 15 true (.bin .leq (.t 17) (.c (.int .i64 40)))),(oN 19 (.pick (.t 15) (.t 18) (.c (.bool false)))),(oM 20 19),(oG 21 20 true (.mov (.t 2))),(oG 22 20 true (.bin .leq (.t 21) (.c (.int .i64 60)))),(oN 23 (.pick (.t 20) (.t 22) (.c (.bool false)))),(oM 6 23)] [1,2,3,7,8,9,10,11,12,13,14,15,16,17,18,19,20,21,22,23]) (.ret))
def ze1:List ARet:=[.tmp 6]
theorem zsK:zT Tryz.prog zk0 (qRo [3])=some (zmG.strip,ze1,24):=by kernel_rfl
def zfC:ACode:=.seq (.seq (.region [ (oM 59 9),(oF 60 6 1 8),(oL 61 60),(oE 62 61),(oB 63 .lss 59 62)] [59,60,61,62]) (.cond (.t 63) (.skip) (.exit 4))) (.seq (.block 5 (.seq (.region [ (oF 66 6 1 8),(oL 67 66),(oM 68 9),(oI 69 5 67 68),(oA 70 5 69),(oM 71 1),(oM 72 5),(oN 73 (.call zid [(.t 70),(.t 71),(.t 72)])),(oM 5 73)] [63,66,67,68,69,70,71,72,73]) (.seq (.region [ (oM 74 5),(oC 75 .lss 74 0)] [74]) (.cond (.t 75) (.seq (.region [ Yaa] [1,2,5,6,7,8,9,75]) (.ret)) (.skip))))) (.region [ (oM 64 9),(oC 65 .add 64 1),(oM 9 65)] [4,64,65,75]))
def zfu:ACode:=.region [ (oM 38 7),(oC 39 .add 38 1),(oM 7 39)] [8,9,38,39]
def zfL:ACode:=.seq (.seq (.region [ (oM 29 7),(oF 30 1 1 2),(oL 31 30),(oM 32 6),(oI 33 2 31 32),(oF 34 1 1 33),(oL 35 34),(oE 36 35),(oB 37 .lss 29 36)] [29,30,31,32,33,34,35,36]) (.cond (.t 37) (.skip) (.exit 2))) (.seq (.block 3 (.seq (.region [ (oF 40 1 1 2),(oL 41 40),(oM 42 6),(oI 43 2 41 42),(oF 44 1 1 43),(oL 45 44),(oM 46 7),(oI 47 8 45 46),(oA 48 8 47),(oN 8 (.alloc [.int .i64 0,.int .i64 0,.int .i64 0,.int .i64 0,.int .i64 0,.int .u32 0,.nilsl,.nilsl])),(oS 8 8 48)] [37,40,41,42,43,44,45,46,47,48]) (.seq (.seq (.region [ (oF 49 6 1 8),(oL 50 49),(oE 51 50),(oC 52 .gtr 51 4),(oM 53 52),(oG 54 53 false (.fldaddr 7 1 (.t 8))),(oG 55 53 false (.load false 1 (.t 54))),(oG 56 53 false (.len (.t 55))),(oG 57 53 false (.bin .gtr (.t 56) (.c (.int .i64 100)))),(oN 58 (.pick (.t 53) (.c (.bool true)) (.t 57)))] [49,50,51,52,53,54,55,56,57]) (.cond (.t 58) (.seq (.region [ Yaa] [1,2,5,6,7,8,58]) (.ret)) (.skip))) (.seq (.region [ (oK 9 0)] [4,58]) (.block 4 (.loop zfC)))))) (zfu))
def zfG:ACode:=.region [ (oM 19 6),(oC 20 .add 19 1),(oM 6 20)] [7,19,20]
def zfA:ACode:=.seq (.seq (.region [ (oM 14 6),(oF 15 1 1 2),(oL 16 15),(oE 17 16),(oB 18 .lss 14 17)] [14,15,16,17]) (.cond (.t 18) (.skip) (.exit 0))) (.seq (.block 1 (.seq (.seq (.region [ (oF 21 1 1 2),(oL 22 21),(oM 23 6),(oI 24 2 22 23),(oF 25 1 1 24),(oL 26 25),(oE 27 26),(oC 28 .gtr 27 1100)] [18,21,22,23,24,25,26,27]) (.cond (.t 28) (.seq (.region [ Yaa] [1,2,5,6,28]) (.ret)) (.skip))) (.seq (.region [ (oK 7 0)] [4,28]) (.block 2 (.loop zfL))))) (zfG))
def zfo:ACode:=.seq (.region [ Yan] [1,2,5,6]) (.ret)
def zhw:ACode:=.seq (.region [ Yai,Yaa] [0,4]) (.seq (.region [ (oK 5 20000)] []) (.seq (.seq (.region [ (oF 10 1 1 2),(oL 11 10),(oE 12 11),(oC 13 .gtr 12 300)] [10,11,12]) (.cond (.t 13) (.seq (.region [ Yaa] [1,2,5,13]) (.ret)) (.skip))) (.seq (.seq (.region [ (oK 6 0)] [4,13]) (.block 0 (.loop zfA))) (zfo))))
def zaT:List ARet:=[.tmp 4]
theorem zmk:zT Tryz.prog zfm (qRo [2])=some (zhw.strip,zaT,76):=by kernel_rfl
def zhg:ACode:=.seq (.seq (.region [ (oM 11 5),(oM 12 0),(oE 13 12),(oB 14 .lss 11 13)] [11,12,13]) (.cond (.t 14) (.skip) (.exit 0))) (.seq (.block 1 (.seq (.draw ( .step (oM 17 0) ( .step (oM 18 5) ( .step (oI 19 1 17 18) ( .step (oL 20 19) ( .step (oM 21 1) ( .step (oM 22 5) ( .step (oI 23 1 21 22) ( .step (oL 24 23) ( .step (oB 25 .neq 20 24) ( .done)))))))))) [14,17,18,19,20,21,22,23,24]) (.cond (.t 25) (.seq (.region [ Yaa] [0,1,5,25]) (.ret)) (.skip)))) (.region [ (oM 15 5),(oC 16 .add 15 1),(oM 5 16)] [4,15,16,25]))
def zgR:ACode:=.seq (.region [ Yan] [0,1,5]) (.ret)
def zjb:ACode:=.seq (.region [ Yaa] [4]) (.seq (.seq (.region [ (oM 6 0),(oE 7 6),(oM 8 1),(oE 9 8),(oB 10 .neq 7 9)] [6,7,8,9]) (.cond (.t 10) (.seq (.region [ Yaa] [0,1,10]) (.ret)) (.skip))) (.seq (.seq (.region [ (oK 5 0)] [4,10]) (.block 0 (.loop zhg))) (zgR)))
def zdT:List ARet:=[.tmp 4]
theorem zoa:zT Tryz.prog zau (qRo [])=some (zjb.strip,zdT,26):=by kernel_rfl
theorem Qae {p q:Prop}(k:q)(h:Im q p:=by(repeat first|simp(disch:=try exact dis1) only[evD,Nat.reduceBEq,Nat.reduceAdd,Nat.reduceLeDiff,dT,dF,zdA] | ((with_reducible apply Im.i);intro _) | ((with_reducible apply Im.a);omega));exact Im.r):p:=h k
theorem Qaf {p q:Prop}(k:q)(h:Im q p:=by(repeat first|simp(disch:=try exact dis1) only[evD,Nat.reduceBEq,Nat.reduceAdd,Nat.reduceLeDiff,fldP,dT,dF] | ((with_reducible apply Im.i);intro _) | ((with_reducible apply Im.a);omega));exact Im.r):p:=h k
theorem Qag {p q:Prop}(k:q)(h:Im q p:=by(repeat first|simp(disch:=try exact dis1) only[evD,Nat.reduceBEq,Nat.reduceAdd,Nat.reduceLeDiff,zdA] | ((with_reducible apply Im.i);intro _) | ((with_reducible apply Im.a);omega));exact Im.r):p:=h k
theorem zqR:∀(k:Nat) (e:Ex) (m n:Int),zgO e≤k → -1000≤m→m≤1000 → -1≤n→n≤100000→zk Tryz.prog zid [.agg (encX e),.int .i64 m,.int .i64 n] (·=.int .i64 (zhM e m n)):=by
 intro k
 induction k with
 | zero=>intro e m n h;obtain⟨_,_,_,_,l⟩:=e;rw[zgO] at h;omega
 | succ k ih =>
 intro e m n hk h1 h2 h3 h4;obtain⟨op,nn,v,w,l⟩:=e;refine fn_x zsg rfl ?_;unfold zms;have hB:=hBig;rw[zgO] at hk;have hR:=zgS (.mk op nn v w l) m n h3;rw[zhM] at hR ⊢;generalize hE:encX (.mk op nn v w l)=E;rw[zhn] at hE;subst hE
 by_cases c1:m < 1
 ·
  rw[if_pos (.inl c1)]
  (repeat first|simp(disch:=try exact dis1) only[evD,Nat.reduceBEq,Nat.reduceAdd,Nat.reduceLeDiff,dT,zdA]|with_reducible first|intro _|refine aJ ?_)
  exact⟨_,.int _ _ _,rfl⟩
 by_cases c2:n < 1
 ·
  rw[if_pos (.inr (.inl c2))]
  (refine Qae ?_;intros)
  exact⟨_,.int _ _ _,rfl⟩
 by_cases c3:4 < l.length
 ·
  rw[if_pos (.inr (.inr c3))]
  (refine Qae ?_;intros)
  exact⟨_,.int _ _ _,rfl⟩
 rw[if_neg (by omega)] at hR ⊢
 (refine Qk ?_;intros)
 generalize hG:zdv l (m - 1) (n - 1)=R at hR ⊢;refine zm (fun s:Nat × Int=>([(1,.int .i64 m),(3,encP 5 [.int .i64 op,.int .u32 nn,.int .i64 v,.int .i64 w,encL 5 encX l]),(7,.int .i64 s.2),(8,.int .i64 s.1)],[])) 0 (fun s=>s.1≤l.length ∧ -1≤s.2∧s.2≤n∧zdv (l.drop s.1) (m - 1) s.2=R) (fun s=>l.length - s.1) (0,n - 1) ⟨Wc _,by simp only;omega,by simp only;omega,hG⟩ (Ent.keep rfl fin5) ?_;rintro⟨i,x⟩ ⟨hi,hx1,hx2,hgo⟩ wf;simp only at hi hx1 hx2 hgo;unfold zi3
 by_cases hl:i < l.length
 ·
  by_cases hx:0≤x
  ·
   rw[zsC hl hx] at hgo;have hm:=zhW (WA hl);have hr:=zgS l[i] (m - 1) x hx1
   (repeat first|simp(disch:=try exact dis1) only[evD,Nat.reduceBEq,Nat.reduceAdd,Nat.reduceLeDiff,fldP,dT,dF,zo hl,zbO,zbn]|with_reducible first|intro _|refine aJ ?_)
   refine zc (zg (ih l[i] (m - 1) x (by omega) (by omega) (by omega) (by omega) (by omega)) (flX rfl)) ?_
   (refine Qa ?_;intros)
   exact⟨(i+1,zhM l[i] (m - 1) x),⟨by simp only;omega,by simp only;omega,by simp only;omega,hgo⟩,by simp only;omega,Ent.keep rfl fin5⟩
  ·
   rw[zt7 (by omega)] at hgo;subst hgo
   (refine Qaf ?_;intros)
   unfold zf4
   (refine Qag ?_;intros)
   exact⟨_,.int _ _ _,rfl⟩
 ·
  rw[Wj (by omega),zdv] at hgo;subst hgo
  (refine Qaf ?_;intros)
  unfold zf4
  (refine Qag ?_;intros)
  exact⟨_,.int _ _ _,rfl⟩
theorem zqt {l m:List Int} {i:Nat} (h:l.take i=m.take i) (hi:i < l.length) (hm:i < m.length) (he:l[i]=m[i]):l.take (i+1)=m.take (i+1):=by rw[WC hi,WC hm,h,he]
theorem Qbb {p:Prop}(h:p:=by(try simp only[evWB,Nat.reduceBEq,Nat.reduceAdd,Nat.reduceSub,Nat.reduceLeDiff,Nat.reduceLT,implies_true,za])<;>exact fin2):p:=h
theorem zgr (A B:List Int):zk Tryz.prog zau [za A,za B] (·=.bool (decide (A=B))):=by
 refine fn_x zoa rfl ?_;unfold zjb;have hB:=hBig
 by_cases hl:A.length=B.length
 ·
  (refine QH ?_;intros)
  refine zm (fun i:Nat=>([(0,za A),(1,za B),(5,.int .i64 i)],[])) 0 (fun i=>i≤A.length∧A.take i=B.take i) (fun i=>A.length - i) 0 ⟨Wc _,by simp⟩ (Ent.tab [] [] rfl Qbb Qbb) ?_;rintro i ⟨hi,htk⟩ wf;unfold zhg
  by_cases hil:i < A.length
  ·
   have hib:i < B.length:=by omega
   have ga:=zo (f:=cI) (d:=[]) hil;have gb:=zo (f:=cI) (d:=[]) hib
   by_cases he:A[i]=B[i]
   ·
    (repeat first|simp(disch:=try exact dis1) only[evD,Nat.reduceBEq,Nat.reduceAdd,Nat.reduceLeDiff,dT,dF,za,ga,gb]|with_reducible first|intro _|refine aJ ?_)
    exact⟨i+1,⟨by omega,zqt htk hil hib he⟩,by omega,Ent.keep rfl fin5⟩
   ·
    have hne:A≠B:=fun e=>he (by subst e;rfl)
    rw[decide_eq_false hne]
    (repeat first|simp(disch:=try exact dis1) only[evD,Nat.reduceBEq,Nat.reduceAdd,Nat.reduceLeDiff,dT,za,ga,gb,zdT]|with_reducible first|intro _|refine aJ ?_)
    exact⟨_,.bool _ _,rfl⟩
  ·
   rw[Wr (by omega),Wr (by omega)] at htk;rw[decide_eq_true htk]
   (refine QH ?_;intros)
   unfold zgR
   (repeat first|simp(disch:=try exact dis1) only[evD,Nat.reduceBEq,Nat.reduceAdd,Nat.reduceLeDiff,zdT]|with_reducible first|intro _|refine aJ ?_)
   exact⟨_,.bool _ _,rfl⟩
 ·
  have hne:A≠B:=fun e=>hl (by rw[e])
  rw[decide_eq_false hne]
  (repeat first|simp(disch:=try exact dis1) only[evD,Nat.reduceBEq,Nat.reduceAdd,Nat.reduceLeDiff,dT,za,zdT]|with_reducible first|intro _|refine aJ ?_)
  exact⟨_,.bool _ _,rfl⟩
def zqn (most:Int):List Ex→Int→Option Int
 | [],n=>some n
 | e::l,n=>if zhM e most n < 0 then none else zqn most l (zhM e most n)
def zn6 (most:Int):List St→Int→Option Int
 | [],n=>some n
 |
  s::l,n=>if 4 < s.e.length∨100 < s.cases.length then none else match zqn most s.e n with
  | none=>none
  | some n=>zn6 most l n
def zpc (most:Int):List Bl→Int→Option Int
 | [],n=>some n
 |
  b::l,n=>if 1100 < b.stmts.length then none else match zn6 most b.stmts n with
  | none=>none
  | some n=>zpc most l n
def ziz (g:G) (most:Int):Bool:=decide (g.blocks.length≤300)&&(zpc most g.blocks 20000).isSome
theorem zv9 {most:Int} {l:List Ex} {i:Nat} {n:Int} (h:i < l.length):zqn most (l.drop i) n=if zhM l[i] most n < 0 then none else zqn most (l.drop (i+1)) (zhM l[i] most n):=by rw[Wy h,zqn]
theorem zvS {most:Int} {l:List St} {i:Nat} {n:Int} (h:i < l.length):zn6 most (l.drop i) n=if 4 < l[i].e.length∨100 < l[i].cases.length then none else match zqn most l[i].e n with
  | none=>none
  | some n=>zn6 most (l.drop (i+1)) n:=by
 rw[Wy h,zn6]
theorem zwd {most:Int} {l:List Bl} {i:Nat} {n:Int} (h:i < l.length):zpc most (l.drop i) n=if 1100 < l[i].stmts.length then none else match zn6 most l[i].stmts n with
  | none=>none
  | some n=>zpc most (l.drop (i+1)) n:=by
 rw[Wy h,zpc]
theorem zsi {most:Int}:∀ {l:List St} {n m:Int},zn6 most l n=some m→∀s∈l,s.cases.length≤100
 | [],n,m,_,s,hs=>by cases hs
 |
  a::l,n,m,h,s,hs=>by
  rw[zn6] at h;split at h
  · cases h
  ·
   rename_i h1;split at h
   · cases h
   ·
    rcases Wa.1 hs with rfl|hs
    · omega
    · exact zsi h s hs
theorem zsk {most:Int}:∀ {l:List Bl} {n m:Int},zpc most l n=some m→∀b∈l,b.stmts.length≤1100∧∀s∈b.stmts,s.cases.length≤100
 | [],n,m,_,b,hb=>by cases hb
 |
  a::l,n,m,h,b,hb=>by
  rw[zpc] at h;split at h
  · cases h
  ·
   rename_i h1;split at h
   · cases h
   ·
    rename_i h2
    rcases Wa.1 hb with rfl|hb
    · exact⟨by omega,zsi h2⟩
    · exact zsk h b hb
theorem zp0 {g:G} {most:Int} (h:ziz g most=true):midG g:=by unfold ziz at h;rw[Bool.and_eq_true,decide_eq_true_eq,Option.isSome_iff_exists] at h;obtain⟨h1,m,h2⟩:=h;exact⟨h1,zsk h2⟩
theorem zl9 (g:G) (most:Int) (hm1' : -1000≤most) (hm2:most≤1000):zk Tryz.prog zfm [.agg g.cells,.int .i64 most] (·=.bool (ziz g most)):=by
 refine fn_x zmk rfl ?_;unfold zhw;have hB:=hBig;obtain⟨ad,l⟩:=g;simp only[G.cells,ziz]
 by_cases h300:300 < l.length
 ·
  rw[decide_eq_false (by omega),Wz]
  (repeat first|simp(disch:=try exact dis1) only[evD,Nat.reduceBEq,Nat.reduceAdd,Nat.reduceLeDiff,fldP,dT,zaT]|with_reducible first|intro _|refine aJ ?_)
  exact⟨_,.bool _ _,rfl⟩
 rw[decide_eq_true (by omega),Wq];generalize hR:zpc most l 20000=R
 (refine Qi ?_;intros)
 refine zm (fun s:Nat × Int=>([(1,.int .i64 most),(2,encP 2 [.int .u32 ad,encL 2 Bl.cells l]),(5,.int .i64 s.2),(6,.int .i64 s.1)],[])) 0 (fun s=>s.1≤l.length∧0≤s.2∧s.2≤20000∧zpc most (l.drop s.1) s.2=R) (fun s=>l.length - s.1) (0,20000) ⟨Wc _,by simp,by simp,hR⟩ (Ent.keep rfl fin5) ?_;rintro⟨i,n⟩ ⟨hi,hn0,hn1,hgo⟩ wf;simp only at hi hn0 hn1 hgo;unfold zfA
 by_cases hl:i < l.length
 case neg =>
  rw[Wj (by omega),zpc] at hgo;subst hgo
  (refine Qi ?_;intros)
  unfold zfo
  (repeat first|simp(disch:=try exact dis1) only[evD,Nat.reduceBEq,Nat.reduceAdd,Nat.reduceLeDiff,zaT]|with_reducible first|intro _|refine aJ ?_)
  exact⟨_,.bool _ _,rfl⟩
 rw[zwd hl] at hgo;have hg:=zo (f:=Bl.cells) (d:=[]) hl;generalize l[i]=bb at hgo hg;obtain⟨bad,bst⟩:=bb;simp only[Bl.cells] at hgo hg
 by_cases h1100:1100 < bst.length
 ·
  rw[if_pos h1100] at hgo;subst hgo
  (repeat first|simp(disch:=try exact dis1) only[evD,Nat.reduceBEq,Nat.reduceAdd,Nat.reduceLeDiff,fldP,dT,hg,zaT]|with_reducible first|intro _|refine aJ ?_)
  exact⟨_,.bool _ _,rfl⟩
 rw[if_neg h1100] at hgo
 (repeat first|simp(disch:=try exact dis1) only[evD,Nat.reduceBEq,Nat.reduceAdd,Nat.reduceLeDiff,fldP,dT,dF,hg]|with_reducible first|intro _|refine aJ ?_)
 generalize hRS:zn6 most bst n=RS at hgo;refine zm (fun s:Nat × Int=>([(1,.int .i64 most),(2,encP 2 [.int .u32 ad,encL 2 Bl.cells l]),(5,.int .i64 s.2),(6,.int .i64 i),(7,.int .i64 s.1)],[])) 0 (fun s=>s.1≤bst.length∧0≤s.2∧s.2≤20000∧zn6 most (bst.drop s.1) s.2=RS) (fun s=>bst.length - s.1) (0,n) ⟨Wc _,hn0,hn1,hRS⟩ (Ent.keep rfl fin5) ?_;rintro⟨j,m⟩ ⟨hj,hm0,hm1,hgs⟩ wf;simp only at hj hm0 hm1 hgs;unfold zfL
 by_cases hjl:j < bst.length
 case neg =>
  rw[Wj (by omega),zn6] at hgs;subst hgs;simp only at hgo
  (repeat first|simp(disch:=try exact dis1) only[evD,Nat.reduceBEq,Nat.reduceAdd,Nat.reduceLeDiff,fldP,dF,hg]|with_reducible first|intro _|refine aJ ?_)
  unfold zfG
  (refine Qa ?_;intros)
  exact⟨(i+1,m),⟨by simp only;omega,hm0,hm1,hgo⟩,by simp only;omega,Ent.keep rfl fin5⟩
 rw[zvS hjl] at hgs;have hgt:=zo (f:=St.cells) (d:=[]) hjl;generalize bst[j]=s at hgs hgt;obtain⟨op,var,width,next,els,tgt,e,cases⟩:=s;simp only[St.cells] at hgs hgt
 by_cases hbad:4 < e.length∨100 < cases.length
 ·
  rw[if_pos hbad] at hgs;subst hgs;simp only at hgo;subst hgo
  by_cases h4:4 < e.length
  ·
   (repeat first|simp(disch:=try exact dis1) only[evD,Nat.reduceBEq,Nat.reduceAdd,Nat.reduceLeDiff,fldP,dT,hg,hgt,za,zaT]|with_reducible first|intro _|refine aJ ?_)
   exact⟨_,.bool _ _,rfl⟩
  ·
   have h100:100 < cases.length:=by omega
   (repeat first|simp(disch:=try exact dis1) only[evD,Nat.reduceBEq,Nat.reduceAdd,Nat.reduceLeDiff,fldP,dT,dF,hg,hgt,za,zaT]|with_reducible first|intro _|refine aJ ?_)
   exact⟨_,.bool _ _,rfl⟩
 rw[if_neg hbad] at hgs
 (repeat first|simp(disch:=try exact dis1) only[evD,Nat.reduceBEq,Nat.reduceAdd,Nat.reduceLeDiff,fldP,dT,dF,hg,hgt,za]|with_reducible first|intro _|refine aJ ?_)
 generalize hRE:zqn most e m=RE at hgs;refine zm (fun s:Nat × Int=>([(1,.int .i64 most),(2,encP 2 [.int .u32 ad,encL 2 Bl.cells l]),(5,.int .i64 s.2),(6,.int .i64 i),(7,.int .i64 j),(8,.ptr 0 0 0 0 0),(9,.int .i64 s.1)],[(0,.row 8 [[.int .i64 op,.int .i64 var,.int .i64 width,.int .i64 next,.int .i64 els,.int .u32 tgt,encL 5 encX e,za cases]] 0)])) 1 (fun s=>s.1≤e.length∧0≤s.2∧s.2≤20000∧zqn most (e.drop s.1) s.2=RE) (fun s=>e.length - s.1) (0,m) ⟨Wc _,hm0,hm1,hRE⟩ (Ent.keep rfl fin5) ?_;rintro⟨k,p⟩ ⟨hk,hp0,hp1,hge⟩ wf;simp only at hk hp0 hp1 hge;unfold zfC
 by_cases hkl:k < e.length
 case neg =>
  rw[Wj (by omega),zqn] at hge;subst hge;simp only at hgs
  (refine Qi ?_;intros)
  unfold zfu
  (refine Qa ?_;intros)
  exact⟨(j+1,p),⟨by simp only;omega,hp0,hp1,hgs⟩,by simp only;omega,(Ent.tab [] [] rfl Qan Qan)⟩
 rw[zv9 hkl] at hge;have hnr:=zgS e[k] most p (by omega);have hno:=zqR (zgO e[k]) e[k] most p (Wo _) hm1' hm2 (by omega) (by omega);have hgx:(e.map encX).getD k []=encX e[k]:=zo hkl;generalize e[k]=x at hge hnr hno hgx
 (repeat first|simp(disch:=try exact dis1) only[evD,Nat.reduceBEq,Nat.reduceAdd,Nat.reduceLeDiff,fldP,dT,hgx,zbO,zbn]|with_reducible first|intro _|refine aJ ?_)
 refine zc (zg hno (flX rfl)) ?_;generalize zhM x most p=y at hge hnr
 by_cases hy:y < 0
 ·
  rw[if_pos hy] at hge;subst hge;simp only at hgs;subst hgs;simp only at hgo;subst hgo
  (repeat first|simp(disch:=try exact dis1) only[evD,Nat.reduceBEq,Nat.reduceAdd,Nat.reduceLeDiff,dT,zaT]|with_reducible first|intro _|refine aJ ?_)
  exact⟨_,.bool _ _,rfl⟩
 ·
  rw[if_neg hy] at hge
  (refine Qk ?_;intros)
  exact⟨(k+1,y),⟨by simp only;omega,by simp only;omega,by simp only;omega,hge⟩,by simp only;omega,Ent.keep rfl fin5⟩
def znU (g:G) (cs:List Int) (most:Int):Bool:=decide (g.blocks.length≤20)&&(ziz g 8&&(decide (cs.length≤40)&&decide (most≤60)))
theorem zr8 (g:G) (cs:List Int) (most:Int):zk Tryz.prog zk0 [.agg g.cells,encL 1 cW cs,.int .i64 most] (·=.bool (znU g cs most)):=by
 refine fn_x zsK rfl ?_;unfold zmG znU;have hB:=hBig;have hsg:=zl9 g 8 (by decide) (by decide);generalize ziz g 8=sg at hsg ⊢;obtain⟨ad,l⟩:=g;simp only[G.cells] at hsg ⊢
 by_cases h20:l.length≤20
 ·
  have d20:decide ((l.length:Int)≤20)=true:=by simp;omega
  rw[decide_eq_true h20,Wq]
  (repeat first|simp(disch:=try exact dis1) only[evD,Nat.reduceBEq,Nat.reduceAdd,Nat.reduceLeDiff,fldP,d20]|with_reducible first|intro _|refine aJ ?_)
  refine zc (zg hsg rfl) ?_
  cases sg with
  |
   false =>
   (repeat first|simp(disch:=try exact dis1) only[evD,Nat.reduceBEq,Nat.reduceAdd,Nat.reduceLeDiff,ze1]|with_reducible first|intro _|refine aJ ?_)
   exact⟨_,.bool _ _,rfl⟩
  |
   true =>
   rw[Wq]
   by_cases h40:cs.length≤40
   ·
    have d40:decide ((cs.length:Int)≤40)=true:=by simp;omega
    rw[decide_eq_true h40,Wq]
    (repeat first|simp(disch:=try exact dis1) only[evD,Nat.reduceBEq,Nat.reduceAdd,Nat.reduceLeDiff,d40,za,ze1]|with_reducible first|intro _|refine aJ ?_)
    exact⟨_,.bool _ _,rfl⟩
   ·
    have d40:decide ((cs.length:Int)≤40)=false:=by simp;omega
    rw[decide_eq_false h40,Wz]
    (repeat first|simp(disch:=try exact dis1) only[evD,Nat.reduceBEq,Nat.reduceAdd,Nat.reduceLeDiff,d40,za,ze1]|with_reducible first|intro _|refine aJ ?_)
    exact⟨_,.bool _ _,rfl⟩
 ·
  have d20:decide ((l.length:Int)≤20)=false:=by simp;omega
  rw[decide_eq_false h20,Wz]
  (repeat first|simp(disch:=try exact dis1) only[evD,Nat.reduceBEq,Nat.reduceAdd,Nat.reduceLeDiff,fldP,d20,ze1]|with_reducible first|intro _|refine aJ ?_)
  exact⟨_,.bool _ _,rfl⟩
def stX (op next els:Int) (e:List Ex):St:=⟨op,0,0,next,els,0,e,[]⟩
def zl6 (n m:Int):St:=stX 7 n m [.mk 2 0 0 0 []]
theorem zaq {α:Type} {n:Nat} {c:α→List AV} {l:List α}:(encL n c l).flat0=true:=rfl
theorem zaO {k:IntKind} {n:Int}:(AV.int k n).flat0=true:=rfl
theorem zaS:AV.nilsl.flat0=true:=rfl
theorem zbC {sz n:Nat} {f:Nat→Nat→AV}:(AV.sl sz n f).flat0=true:=rfl
theorem zf0 (s:St):zk Tryz.prog zcG [.agg s.cells] (·=.agg (Bl.cells ⟨0,[s]⟩)):=by
 refine fn_x zv0 rfl ?_;unfold zpt;have hB:=hBig;obtain⟨op,var,width,next,els,tgt,e,cases⟩:=s;simp only[St.cells,Bl.cells]
 (repeat first|simp(disch:=try exact dis1) only[evD,Nat.reduceBEq,Nat.reduceAdd,Nat.reduceLeDiff,fldP,za,z6,zt,zaq,zaO,zaS,zbC,Bool.and_self,Ws,List.all_nil,zp1]|with_reducible first|intro _|refine aJ ?_)
 exact⟨_,zao rfl,rfl⟩
theorem zlR (n m:Int):zk Tryz.prog zgY [.int .i64 n,.int .i64 m] (·=.agg (St.cells (zl6 n m))):=by
 refine fn_x zqM rfl ?_;unfold zlH;have hB:=hBig
 (repeat first|simp(disch:=try exact dis1) only[evD,Nat.reduceBEq,Nat.reduceAdd,Nat.reduceLeDiff,fldP,za,z6,zt,zaq,zaO,zaS,zbC,Bool.and_self,Ws,List.all_nil,zlx]|with_reducible first|intro _|refine aJ ?_)
 refine⟨_,.agg _ _ (St.cells (zl6 n m)) rfl fun i a b h1 h2=>?_,rfl⟩
 match i with
 | 0=>cases h1;cases h2;exact .int _ _ _
 | 1=>cases h1;cases h2;exact .int _ _ _
 | 2=>cases h1;cases h2;exact .int _ _ _
 | 3=>cases h1;cases h2;exact .int _ _ _
 | 4=>cases h1;cases h2;exact .int _ _ _
 | 5=>cases h1;cases h2;exact .int _ _ _
 |
  6 =>
  cases h1;cases h2
  refine .slf _ _ _ _ _ fun i j hi hj=>?_
  obtain rfl:i=0:=by omega
  match j with
  | 0=>exact .int _ _ _
  | 1=>exact .int _ _ _
  | 2=>exact .int _ _ _
  | 3=>exact .int _ _ _
  | 4=>exact .nil0 _ _ _
  | j+5=>omega
 | 7=>cases h1;cases h2;exact .nil0 _ _ _
 | i+8=>cases h1
end Go.Ab
