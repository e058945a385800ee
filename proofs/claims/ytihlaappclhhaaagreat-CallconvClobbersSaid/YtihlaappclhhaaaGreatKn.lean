/-
  Part 14 of the proof: how the calls of this program run, over values instead of memory, and what each function computes.
-/
import Derived.Test.YtihlaappclhhaaaGreatKm
set_option maxRecDepth 100000
set_option cbv.warning false
set_option cbv.maxSteps 100000000
set_option linter.unusedVariables false
set_option linter.unusedSimpArgs false
set_option linter.unnecessarySimpa false
set_option linter.unusedSectionVars false
open List renaming range→Wa,mem_cons→Wc,map_cons→Wg,getD→Wi,length_cons→Wj,map_map→Wk,mem_map→Wl,take_length→Wm,length_take→Wn,cons_append→Wo,nil_append→Wp,getElem_mem→Wr,map_nil→Ws,map_congr_left→Wt,nodup_cons→Wu,mem_filter→Wv,mem_append→Ww,mem_singleton→Wx,mem_range→Wy,length_map→WA,getElem_range→WB,getElem?_set_ne→WC,getElem_append_left→WD,getElem?_eq_getElem→WE,not_mem_nil→WF,take_zero→WG,drop_eq_getElem_cons→WK,filter_cons→WL,drop_zero→WM,map_append→WN,any_eq_true→WO,getElem?_map→WP,replicate→WS,getElem?_eq_some_iff→WU,length_append→WV,length_singleton→WW,all_eq_true→WX,findIdx?_cons→WY,getD_cons_zero→WZ,getD_cons_succ→W0,findIdx?_eq_some_iff_getElem→W3,findIdx?_eq_none_iff→W5,getElem_set→W6,mem_of_getElem?→W8,length_filter_le→W9,take_succ_eq_append_getElem→Waa,ext_getElem→Wac,length_range→Wad
open Nat renaming le_trans→Wd,zero_le→Wf,le_refl→Wh,succ_mul→WH,lt_succ_self→WJ,mul_le_mul_right→Wab
open Option renaming map_some→We,bind_some→WI,map_eq_some_iff→WQ
open Bool renaming and_eq_true→Wq
open And renaming intro→Wz
open Int renaming toNat_natCast→WR
open Option.some renaming injEq→W7
namespace Go.Ab
open Go.RowKit Go.Proofs
def chV(l:List Sgn)(at':List Int)(s:St)(v:Int):Bool :=
 if s.op=5 then decide (v∈(zbc l at' s.tgt).res)||(decide (v=7)&&decide (v∈(zbc l at' s.tgt).sav)) else decide (s.op=1∨s.op=3)&&decide (s.var=v)
def resS(at':List Int)(s:St):Bool := !(decide (s.op=5)&&(idxA at' s.tgt).isNone)
def resB(at':List Int)(b:Bl):Bool:=b.stmts.all (resS at')
def resG(g:G)(at':List Int):Bool:=g.blocks.all (resB at')
def errC(g:G)(n:Int)(at':List Int):Int:=if n≠at'.length then 2 else if zdU g≠0 then zdU g else if resG g at' then 0 else 17
theorem zvx(a b:Sgn)(ha:a.args.length≤big):zz Tryz.prog zj4 [.agg a.cells,.agg b.cells] (·=.bool (decide (a.args=b.args∧a.res=b.res∧a.sav=b.sav))):=by
 refine fn_x zvq rfl ?_
 unfold zq8;conv in dcC _ _=>cbv
 have hB:=hBig;simp only[Sgn.cells];have hl:=Dm.R24_Lists_ok [a.args,a.res,a.sav] [b.args,b.res,b.sav]
 have e1:∀l:List Int,(za l).solid=true:=fun _=>rfl
 have e2:∀l:List Int,(za l).cells=[za l]:=fun _=>rfl
 (refine Gw2 @ub @ua ?_;intros);refine zi (zaH (D:=allR) hl (.cons (Dm.vw_LL (l:=[a.args,a.res,a.sav]) trivial rfl (by simp[big])) (.cons (Dm.vw_LL (l:=[b.args,b.res,b.sav]) trivial rfl (by simp[big])) .nil)) (.inl rfl)) ?_;(refine Gw1 @zrk.eq_1 ?_;intros);refine⟨_,.bool _ _,congrArg AV.bool (decide_eq_decide.2 ?_)⟩;simp
def zwh(s:Sgn)(v:Nat):Bool:=decide ((v:Int)∈s.res) && !decide ((v:Int)∈s.sav)
def zqz(s:Sgn):List Int:=((Wa 12).filter (zwh s)).map fun(v:Nat)=>(v:Int)
theorem zu5{r:Nat}(h:r < 12):(Wa 12).drop r=r::(Wa 12).drop (r+1):=by rw[WK (by simpa using h),WB]
theorem zqR(s:Sgn):zz Tryz.prog zjM [.agg s.cells] (·=za (zqz s)):=by
 refine fn_x zp4 rfl ?_
 unfold zlz zqz;conv in dcC _ _=>cbv
 have hB:=hBig
 have h1:=fun v=>Dm.R24_Has_ok s.res v
 have h2:=fun v=>Dm.R24_Has_ok s.sav v
 generalize hR:(Wa 12).filter (zwh s)=R;simp only[Sgn.cells];(refine Gw2 @ub @ua ?_;intros);refine zd (fun t:Nat × List Nat × Nat=>([(1,encP 3 [za s.args,za s.res,za s.sav]),(3,.own 0 0 t.2.2 0 t.2.1.length),(4,.int .i64 t.1)],[(0,.row 1 (t.2.1.map fun(n:Nat)=>[.int .i64 (n:Int)]) t.2.2)])) 1 (fun t=>t.1≤12∧t.2.1.length≤t.1∧t.2.1++((Wa 12).drop t.1).filter (zwh s)=R) (fun t=>12 - t.1) (0,[],0) ⟨Wf _,Wh _,hR⟩ (Ent.tab [(0,1,0)] [] rfl Qh Qh) ?_;rintro⟨v,out,γ⟩ ⟨hv,hol,hgo⟩ wf;simp only at hv hol hgo;clear wf hR
 unfold zjt;conv in dcC _ _=>cbv
 by_cases hv12:v < 12
 case neg =>
  rw[List.drop_of_length_le (by simp;omega),List.filter_nil,List.append_nil] at hgo;subst hgo;(refine Qd ?_;intros);unfold zjh;(refine Gw1 @zlT.eq_1 ?_;intros)
  have em:(out.map fun(n:Nat)=>[AV.int .i64 (n:Int)])=(out.map fun(r:Nat)=>(r:Int)).map fun n=>[AV.int .i64 n]:=by rw[Wk];rfl
  rw[em,show out.length=(out.map fun(r:Nat)=>(r:Int)).length by simp];exact⟨_,zen trivial rfl (by simp;omega),rfl⟩
 rw[zu5 hv12,WL] at hgo;have h1v:=h1 v;have h2v:=h2 v
 have em:(out.map fun(n:Nat)=>[AV.int .i64 (n:Int)])++[[AV.int .i64 (v:Int)]]=(out++[v]).map fun(n:Nat)=>[AV.int .i64 (n:Int)]:=by simp
 by_cases hr:(v:Int)∈s.res
 case neg =>rw[decide_eq_false hr] at h1v;rw[if_neg (by unfold zwh;simp[hr])] at hgo;(refine Gw2 @dT @ub ?_;intros);refine zi (zf h1v rfl) ?_;(refine Gw0 ?_;intros);exact⟨(v+1,out,γ),⟨hv12,by simp only;omega,hgo⟩,by simp only;omega,(Ent.tab [(0,0,0)] [] rfl Qh Qh)⟩
 rw[decide_eq_true hr] at h1v
 by_cases hs:(v:Int)∈s.sav
 case pos =>rw[decide_eq_true hs] at h2v;rw[if_neg (by unfold zwh;simp[hs])] at hgo;(refine Gw2 @dT @ub ?_;intros);refine zi (zf h1v rfl) ?_;(refine Gw1 @ub ?_;intros);refine zi (zf h2v rfl) ?_;(refine Gw0 ?_;intros);exact⟨(v+1,out,γ),⟨hv12,by simp only;omega,hgo⟩,by simp only;omega,(Ent.tab [(0,0,0)] [] rfl Qh Qh)⟩
 rw[decide_eq_false hs] at h2v;rw[if_pos (by unfold zwh;simp[hs,hr])] at hgo;(refine Gw2 @dT @ub ?_;intros);refine zi (zf h1v rfl) ?_;(refine Gw1 @ub ?_;intros);refine zi (zf h2v rfl) ?_;(refine Gw0 ?_;intros);refine⟨(v+1,out++[v],γ+1),⟨hv12,by simp;omega,by simpa using hgo⟩,by simp only;omega,?_⟩;simp only[WV,WW,←em];exact(Ent.tab [(0,0,0)] [] rfl Qh Qh)
def argP(g:G)(l:List Sgn)(at':List Int)(v:Nat):Bool:=(zmQ g.blocks.length (znx g l at' false v)).getD 0 false
def chgP(g:G)(l:List Sgn)(at':List Int)(v:Nat):Bool:=(ordG g).any fun b=>(blkG g b).stmts.any fun s=>chV l at' s v
def resP(g:G)(l:List Sgn)(at':List Int)(v:Nat):Bool:=chgP g l at' v && !decide ((v:Int)∈savG g l at')
def sigG(g:G)(l:List Sgn)(at':List Int):Sgn:=⟨((Wa 12).filter (argP g l at')).map fun(v:Nat)=>(v:Int),((Wa 12).filter (resP g l at')).map fun(v:Nat)=>(v:Int),savG g l at'⟩
theorem zqW:∀{l:List St},zjo l=0→∀s∈l,s.check=0
 | [],_,s,h=>by cases h
 |
  x::l,h,s,hs=>by
  rw[zjo] at h;split at h
  · rename_i h1;exact absurd h h1
  ·
   rename_i h1
   rcases Wc.1 hs with rfl|hs
   · exact Classical.byContradiction h1
   · exact zqW h s hs
theorem zqv:∀{l:List Bl},zmR l=0→∀b∈l,zjo b.stmts=0
 | [],_,s,h=>by cases h
 |
  x::l,h,s,hs=>by
  rw[zmR] at h;split at h
  · rename_i h1;exact absurd h h1
  ·
   rename_i h1
   rcases Wc.1 hs with rfl|hs
   · exact Classical.byContradiction h1
   · exact zqv h s hs
theorem zqQ:∀{l:List Ex},zlj l=0→∀e∈l,zmO e=0
 | [],_,s,h=>by cases h
 |
  x::l,h,s,hs=>by
  rw[zlj] at h;split at h
  · rename_i h1;exact absurd h h1
  ·
   rename_i h1
   rcases Wc.1 hs with rfl|hs
   · exact Classical.byContradiction h1
   · exact zqQ h s hs
theorem zv4{e:Ex}(h:zmO e=0):zg6 e=true:=by
 unfold zmO at h;split at h
 · cases h
 ·
  split at h
  · assumption
  · cases h
theorem zqj{g:G}(h:zdU g=0):zur g=0:=by
 unfold zdU at h;split at h
 · exact absurd h (by decide)
 · exact h
theorem okS_of{s:St}(h:s.check=0)(hz:z7 s.e≤100000):OkS s:=by
 unfold St.check zxw at h;split at h
 · cases h
 rename_i h1;split at h
 · rename_i h2;exact absurd h h2
 rename_i h2;split at h
 case isFalse=>cases h
 rename_i h3;have h2':zlj s.e=0:=Classical.byContradiction h2
 have hx:za6 s.op=s.e.length:=Classical.byContradiction fun hn=>h1 (.inr hn)
 refine⟨fun h=>?_,fun h=>?_,fun e he=>zv4 (zqQ h2' e he),hz⟩
 · rw[h] at hx;have:za6 1=1:=rfl;omega
 ·
  unfold zy at h3;rw[decide_eq_true_eq] at h3
  rcases h with h|h<;>(rw[h] at h3;omega)
theorem zAI{g:G}(hf:fewC g)(h:zdU g=0):OkG g∧∀b∈g.blocks,∀s∈b.stmts,OkS s:=by
 have h0:=zqj h;unfold zur at h0;split at h0
 case isFalse=>cases h0
 rename_i h1;rw[Wq,WX] at h1;refine⟨⟨?_,fun b hb=>?_,fun b hb t ht=>?_⟩,fun b hb s hs=>okS_of (zqW (zqv h0 b hb) s hs) (Wd (hf.size b hb s hs) (by decide))⟩
 ·
  cases hb:g.blocks with
  | nil=>rw[hb] at h1;simp at h1
  | cons a l=>simp
 · have h2:=h1.2 b hb;unfold zjH at h2;rw[Wq] at h2;intro h3;rw[List.eq_nil_of_length_eq_zero h3] at h2;simp at h2
 · have h2:=h1.2 b hb;unfold zjH at h2;rw[Wq,Wq,WX] at h2;have h3:=h2.2.2 t ht;unfold inN at h3;rw[decide_eq_true_eq] at h3;exact h3
def ofG(g:G)(l:List Sgn)(at':List Int):AV:=if errC g l.length at'≠0 then .tup [.agg zbF.cells,.int .i64 (errC g l.length at')] else .tup [.agg (sigG g l at').cells,.int .i64 0]
theorem znH{g:G}{l:List Sgn}{at':List Int}(h:errC g l.length at'=0):l.length=at'.length∧zdU g=0∧resG g at'=true:=by
 unfold errC at h;split at h
 · cases h
 rename_i h1;split at h
 · rename_i h2;exact absurd h h2
 rename_i h2;split at h
 · rename_i h3;exact⟨by omega,Classical.byContradiction h2,h3⟩
 · cases h
structure TE where
 k:Int
 sg:Sgn
 b:Int
def cT(e:TE):List AV:=[.int .u32 e.k,.agg e.sg.cells,.int .i64 e.b]
def tabM(c:Int)(es:List TE):List (List AV):=[.int .i64 c,.undef,.undef]::es.map cT
def atT(es:List TE)(a:Int):Option Nat:=es.findIdx? fun e=>decide (e.k=a)
def znJ(es:List TE)(a:Int):Option Sgn:=match atT es a with
 | some j=>(es[j]?).map (·.sg)
 | none=>none
theorem zo5{a:Int}:∀{es:List TE}{i:Nat},zcA (.int .u32 a) (es.map cT) i=some (match atT es a with
  | some j=>some (i+j,.agg (es.getD j ⟨0,zbF,0⟩).sg.cells)
  | none=>none)
 | [],i=>rfl
 |
  e::es,i=>by
  unfold atT;rw[WY]
  by_cases h:a=e.k
  · rw[if_pos (decide_eq_true h.symm)];simp only[Wg,cT,zcA,zoP,if_true,decide_eq_true h,Nat.add_zero,WZ]
  ·
   rw[if_neg (by simp;exact fun e=>h e.symm)]
   have e1:zcA (.int .u32 a) ((e::es).map cT) i=zcA (.int .u32 a) (es.map cT) (i+1):=by simp only[Wg,cT,zcA,zoP,if_true,decide_eq_false h]
   rw[e1,zo5];unfold atT
   cases es.findIdx? (fun e=>decide (e.k=a)) with
   | none=>rfl
   |
    some j =>
    simp only[We,W0];rw[show i+1+j=i+(j+1) by omega]
theorem zqq{es:List TE}{a:Int}{j:Nat}(h:atT es a=some j):∃hj:j < es.length,es[j].k=a∧∀i (hi:i < j),(es[i]'(by omega)).k≠a:=by obtain⟨h1,h2,h3⟩:=W3.1 h;exact⟨h1,of_decide_eq_true h2,fun i hi=>by have:=h3 i hi;simpa using this⟩
theorem ztm{es:List TE}{a:Int}{j:Nat}(hj:j < es.length)(h1:es[j].k=a)(h2:∀i (hi:i < j),(es[i]'(by omega)).k≠a):atT es a=some j :=
 W3.2 ⟨hj,decide_eq_true h1,fun i hi=>by simpa using h2 i hi⟩
theorem zxh{es:List TE}{a:Int}(h:∀i (hi:i < es.length),es[i].k≠a):atT es a=none :=
 W5.2 fun x hx=>by
  obtain⟨i,hi,rfl⟩:=List.mem_iff_getElem.1 hx
  simpa using h i hi
theorem zqs{es:List TE}{a:Int}(h:atT es a=none):∀i (hi:i < es.length),es[i].k≠a:=fun i hi=>by
 have:=W5.1 h es[i] (Wr hi)
 simpa using this
theorem zBI{es:List TE}{a:Int}{j:Nat}(h:atT es a=some j)(s:Sgn)(b x:Int):znJ (es.set j ⟨a,s,b⟩) x=if x=a then some s else znJ es x:=by
 obtain⟨hj,h1,h2⟩:=zqq h
 have hkey:∀i (hi:i < (es.set j ⟨a,s,b⟩).length),(es.set j ⟨a,s,b⟩)[i].k=(es[i]'(by simpa using hi)).k:=fun i hi=>by
  rw[W6];split
  · rename_i e;subst e;exact h1.symm
  · rfl
 have hat:atT (es.set j ⟨a,s,b⟩) x=atT es x:=by
  cases hx:atT es x with
  |
   some i =>
   obtain⟨hi,h3,h4⟩:=zqq hx;exact ztm (by simpa using hi) (by rw[hkey];exact h3) (fun i' hi'=>by rw[hkey];exact h4 i' hi')
  |
   none =>
   exact zxh fun i hi=>by rw[hkey];exact zqs hx i (by simpa using hi)
 unfold znJ;rw[hat]
 by_cases hxa:x=a
 · subst hxa;rw[if_pos rfl,h];simp[List.getElem?_set_self hj]
 ·
  rw[if_neg hxa]
  cases hx:atT es x with
  | none=>rfl
  |
   some i =>
   have hij:j≠i:=fun e=>by subst e;obtain⟨hi,h3,_⟩:=zqq hx;exact hxa (h3.symm.trans h1)
   simp only;rw[WC hij]
theorem zBV{es:List TE}{a:Int}(h:atT es a=none)(s:Sgn)(b x:Int):znJ (es++[⟨a,s,b⟩]) x=if x=a then some s else znJ es x:=by
 have h0:=zqs h;unfold znJ
 by_cases hxa:x=a
 · subst hxa;rw[if_pos rfl];have:atT (es++[⟨x,s,b⟩]) x=some es.length:=ztm (by simp) (by simp) (fun i hi=>by rw[WD hi];exact h0 i hi);rw[this];simp
 ·
  rw[if_neg hxa]
  cases hx:atT es x with
  |
   some i =>
   obtain⟨hi,h3,h4⟩:=zqq hx;have:atT (es++[⟨a,s,b⟩]) x=some i:=ztm (by simp;omega) (by rw[WD hi];exact h3) (fun i' hi'=>by rw[WD (by omega)];exact h4 i' hi');rw[this];simp only;rw[List.getElem?_append_left hi]
  |
   none =>
   have hn:=zqs hx
   have:atT (es++[⟨a,s,b⟩]) x=none:=zxh fun i hi=>by
    by_cases hi2:i < es.length
    · rw[WD hi2];exact hn i hi2
    ·
     rw[List.getElem_append_right (by omega)];simp
     exact fun e=>hxa e.symm
   rw[this]
def TabS(l:List Sgn)(at':List Int)(es:List TE):Prop:=∀a,znJ es a=(idxA at' a).map fun k=>l.getD k zbF
theorem zoG{l:List Sgn}{at':List Int}{es:List TE}(h:TabS l at' es)(a:Int):(match atT es a with
  | some j=>(es.getD j ⟨0,zbF,0⟩).sg
  | none=>zbF)=zbc l at' a:=by
 have h1:=h a;unfold znJ at h1;unfold zbc
 cases ha:atT es a with
 |
  none =>
  rw[ha] at h1
  cases hi:idxA at' a with
  | none=>rfl
  | some k=>rw[hi] at h1;cases h1
 |
  some j =>
  obtain⟨hj,_,_⟩:=zqq ha;rw[ha] at h1;simp only[WE hj,We] at h1
  cases hi:idxA at' a with
  | none=>rw[hi] at h1;cases h1
  |
   some k =>
   rw[hi] at h1;simp only[We,W7] at h1;simp only[Wi,WE hj,Option.getD_some];exact h1
theorem zz6{l:List Sgn}{at':List Int}{es:List TE}(h:TabS l at' es)(a:Int):(atT es a).isSome=(idxA at' a).isSome:=by
 have h1:=h a;unfold znJ at h1
 cases ha:atT es a with
 |
  none =>
  rw[ha] at h1
  cases hi:idxA at' a with
  | none=>rfl
  | some k=>rw[hi] at h1;cases h1
 |
  some j =>
  obtain⟨hj,_,_⟩:=zqq ha;rw[ha] at h1;simp only[WE hj,We] at h1
  cases hi:idxA at' a with
  | none=>rw[hi] at h1;cases h1
  | some k=>rfl
theorem zEY(e:TE):∀a∈cT e,a.flat=true:=fun a ha=>by
 unfold cT at ha;simp only[Wc,WF,or_false] at ha
 rcases ha with rfl|rfl|rfl<;>rfl
theorem zet(c:Int)(es:List TE):∀l∈tabM c es,∀a∈l,a.flat=true:=fun l hl a ha=>by
 unfold tabM at hl
 rcases Wc.1 hl with rfl|hl
 ·
  simp only[Wc,WF,or_false] at ha
  rcases ha with rfl|rfl|rfl<;>rfl
 · obtain⟨e,_,rfl⟩:=Wl.1 hl;exact zEY e a ha
theorem zBl{H HH:AH}{σ:Nat→Nat→Option (Nat × Nat × Nat)}{D:Nat→Nat→Prop}{els:List (List AV)}(h:∀l∈els,∀a∈l,a.flat=true):RowV H HH σ D els els :=
 ⟨rfl,fun i c2 hi=>⟨c2,hi,rfl,fun j x y h1 h2=>by
  rw[h1] at h2;cases h2
  exact zai (h c2 (W8 hi) x (W8 h1))⟩⟩
theorem zb{H HH:AH}{σ:Nat→Nat→Option (Nat × Nat × Nat)}{D:Nat→Nat→Prop}{c:Int}{es:List TE}:RowV H HH σ D (tabM c es) (tabM c es):=zBl (zet c es)
theorem renC(ρ:Nat→Nat)(e:TE):(cT e).map (AV.ren ρ)=cT e:=by simp only[cT,Wg,Ws,AV.ren,Sgn.cells,za,encL]
theorem zkd{ρ:Nat→Nat}{c:Int}{es:List TE}{g:Nat}:AObj.ren ρ (.row 3 (tabM c es) g)=.row 3 (tabM c es) g:=by
 simp only[AObj.ren,tabM,Wg,Ws,AV.ren,Wk]
 congr 2
 exact Wt fun e _=>renC ρ e
theorem ur:type_of% @tabM.eq_1:=@tabM.eq_1
theorem ue:type_of% @Int.toNat_natCast:=@Int.toNat_natCast
theorem ze5(l:List Sgn)(at':List Int)(hl:at'.length≤1000000)(he:l.length=at'.length):zU Tryz.prog zbp [encL 3 Sgn.cells l,encL 1 cW at'] [] 0
  (fun v H nx=>v=.mp 0 0∧nx=1∧∃c es,H=[(0,.row 3 (tabM c es) 0)]∧TabS l at' es):=by
 refine zR (fn_x zmq rfl ?_)
 unfold zh1;conv in dcC _ _=>cbv
 have hB:=hBig;(refine Gw0 ?_;intros)
 refine zd (fun s:Nat × Int × List TE=>([(0,encL 3 Sgn.cells l),(1,encL 1 cW at'),(5,.mp 0 0),(6,.int .i64 ((s.1:Int) - 1))],[(0,.row 3 (tabM s.2.1 s.2.2) 0)])) 1
  (fun s=>s.1≤at'.length∧0≤s.2.1∧s.2.1+s.1≤at'.length∧∀a,znJ s.2.2 a=((at'.drop s.1).findIdx? fun x=>decide (x=a)).map fun k=>l.getD (s.1+k) zbF) (fun s=>s.1) (at'.length,0,[]) ⟨Wh _,Int.le_refl _,by simp,fun a=>by simp[znJ,atT]⟩ ?_ ?_
 · exact Ent.keep rfl fin5
 rintro⟨k,c,es⟩ ⟨hk,hc0,hc,hlk⟩ wf;simp only at hk hc0 hc hlk;clear wf
 unfold zf0;conv in dcC _ _=>cbv
 cases k with
 |
  zero =>
  (refine Qd ?_;intros);unfold zf9;(refine Gw1 @zhI.eq_1 ?_;intros);refine⟨_,_,_,(Ent.keep rfl fin5),rfl,rfl,c,es,rfl,fun a=>?_⟩;rw[hlk a,WM];simp only[Nat.zero_add];rfl
 | succ m =>
 have hml:m < at'.length:=by omega
 have e1:((((m+1:Nat):Int)) - 1)=(m:Int):=by omega
 have e3:IntKind.i64.wrap ((m:Int) - 1)=(m:Int) - 1:=zxn (by omega) (by omega)
 have dge:decide ((0:Int)≤(m:Int))=true:=by rw[decide_eq_true_eq];omega
 have gm:(at'.map cW).getD m []=[.int .u32 at'[m]]:=zn (f:=cW) (d:=[]) hml
 have hmll:m < l.length:=by omega
 have gs:(l.map Sgn.cells).getD m []=[za l[m].args,za l[m].res,za l[m].sav]:=zn (f:=Sgn.cells) (d:=[]) hmll;simp only[e1];have hmf:=zo5 (a:=at'[m]) (es:=es) (i:=0)
 have hnx:∀es2,(∀x,znJ es2 x=if x=at'[m] then some l[m] else znJ es x)→∀a,znJ es2 a=((at'.drop m).findIdx? fun x=>decide (x=a)).map fun k=>l.getD (m+k) zbF:=fun es2 h a=>by
  rw[h a,WK hml,WY]
  by_cases ha:a=at'[m]
  · rw[if_pos ha,if_pos (decide_eq_true ha.symm)];simp[Wi,hmll]
  ·
   rw[if_neg ha,if_neg (by simp;exact fun e=>ha e.symm),hlk a]
   cases (at'.drop (m+1)).findIdx? fun x=>decide (x=a) with
   | none=>rfl
   |
    some j =>
    simp only[We];rw[show m+1+j=m+(j+1) by omega]
 cases hat:atT es at'[m] with
 |
  some j =>
  rw[hat] at hmf;have hov:=hnx _ (zBI hat l[m] (es.getD j ⟨0,zbF,0⟩).b);(refine Gw6 dge gm gs @ue @ur hmf ?_;intros);obtain⟨hj,_,_⟩:=zqq hat
  have hset:(es.map cT).set j [.int .u32 at'[m],.agg [za l[m].args,za l[m].res,za l[m].sav],((es.map cT).getD j []).getD 2 .undef]=(es.set j ⟨at'[m],l[m],(es.getD j ⟨0,zbF,0⟩).b⟩).map cT:=by
   rw[List.map_set]
   congr 1
   rw[zn (f:=cT) hj];simp[cT,Sgn.cells,Wi,hj]
  refine⟨(m,c,es.set j ⟨at'[m],l[m],(es.getD j ⟨0,zbF,0⟩).b⟩),⟨by simp only;omega,hc0,by simp only;omega,hov⟩,by simp only;omega,?_⟩;simp only[tabM,←hset];exact Ent.keep rfl fin5
 |
  none =>
  rw[hat] at hmf;have hov:=hnx _ (zBV hat l[m] c);(refine Gw6 dge gm gs @ue @ur hmf ?_;intros);refine⟨(m,c+1,es++[⟨at'[m],l[m],c⟩]),⟨by simp only;omega,by simp only;omega,by simp only;omega,hov⟩,by simp only;omega,?_⟩;simp only[tabM,WN,Wg,Ws,cT,Sgn.cells];exact Ent.keep rfl fin5
def del1(s:MS)(v:Int):MS:=(s.1,s.2.filter fun p=>p.1 != v)
def delL(s:MS)(l:List Int):MS:=l.foldl del1 s
theorem zz9{s:MS}{l:List Int}{i:Nat}(h:i < l.length):delL s (l.take (i+1))=del1 (delL s (l.take i)) l[i]:=by unfold delL;rw[List.take_add_one,WE h,List.foldl_append];rfl
theorem zu6{s:MS}{v:Int}(h:v∉s.2.map (·.1)):del1 s v=s:=by
 unfold del1;rw[List.filter_eq_self.2 fun p hp=>?_];simp only[bne_iff_ne,ne_eq]
 exact fun e=>h (Wl.2 ⟨p,hp,e⟩)
theorem zpm{v:Int}:∀ {ps:List (Int × Int)} {j:Nat},(ps.map (·.1)).Nodup→(h:j < ps.length)→ps[j].1=v→ps.eraseIdx j=ps.filter fun p=>p.1 != v
 |
  p::ps,0,hn,_,he=>by
  simp only[Wg,Wu] at hn;simp only[List.getElem_cons_zero] at he;have h1:=zu6 (s:=((0:Int),ps)) (v:=v) (by rw[←he];exact hn.1);have h2:ps.filter (fun p=>p.1 != v)=ps:=congrArg Prod.snd h1;rw[List.eraseIdx_cons_zero,WL,he,h2];simp
 |
  p::ps,j+1,hn,hj,he=>by
  simp only[Wg,Wu] at hn;simp only[List.getElem_cons_succ] at he
  have hj':j < ps.length:=by simpa using hj
  have hne:p.1≠v:=fun e=>hn.1 (Wl.2 ⟨ps[j],Wr hj',by rw[he,e]⟩)
  rw[List.eraseIdx_cons_succ,WL,zpm hn.2 hj' he];simp[hne]
theorem SetS.filter{c:Int}{ps:List (Int × Int)}(h:SetS c ps)(f:Int × Int→Bool):SetS c (ps.filter f):=by have hsub:(ps.filter f).Sublist ps:=List.filter_sublist;exact⟨h.keys.sublist (hsub.map _),h.borns.sublist (hsub.map _),fun p hp=>h.lt p (hsub.mem hp),h.top,Wd hsub.length_le h.len⟩
theorem zvb:∀{l:List Int}{s:MS},s.ok→(delL s l).ok∧(delL s l).1=s.1∧(delL s l).2.length≤s.2.length
 | [],s,h=>⟨h,rfl,Wh _⟩
 |
  v::l,s,h=>by
  obtain⟨h1,h2,h3⟩:=zvb (l:=l) (s:=del1 s v) (SetS.filter h _);exact⟨h1,h2,Wd h3 (W9 _ _)⟩
theorem zxc{y:Int}:∀{l:List Int}{s:MS},y∈(delL s l).keys↔y∈s.keys∧y∉l
 | [],s=>by simp[delL]
 |
  v::l,s=>by
  show y∈(delL (del1 s v) l).keys↔_;rw[zxc]
  have:y∈(del1 s v).keys↔y∈s.keys∧y≠v:=by
   simp only[MS.keys,del1,Wl,Wv,bne_iff_ne,ne_eq];constructor
   · rintro⟨p,⟨h1,h2⟩,rfl⟩;exact⟨⟨p,h1,rfl⟩,h2⟩
   · rintro⟨⟨p,h1,rfl⟩,h2⟩;exact⟨p,⟨h1,h2⟩,rfl⟩
  rw[this,Wc,not_or,and_assoc]
theorem zuC{α β:Type}{f:α→β}:∀{l:List α}{j:Nat},(l.map f).eraseIdx j=(l.eraseIdx j).map f
 | [],_=>rfl
 | _::_,0=>rfl
 | a::l,j+1=>congrArg (f a::·) (zuC (l:=l) (j:=j))
theorem zAc{ps:List (Int × Int)}{j:Nat}:((enL ps).map cm).eraseIdx j=(enL (ps.eraseIdx j)).map cm:=by unfold enL;rw[Wk,Wk,zuC]
theorem zrj(s:St):(ziV s).length≤z7 s.e:=by
 have:∀(l:List Ex)(a:List Int),(zri a l).length≤a.length+z7 l:=by
  intro l
  induction l with
  | nil=>intro a;rw[zri,z7];simp
  |
   cons x l ih =>
   intro a;rw[zri,z7];have h1:=ih (zhd a (zhi x));have h2:=zsm (a:=a) (b:=zhi x);have h3:=znN x;omega
 have:=this s.e [];show (zri [] s.e).length≤_
 simpa using this
def inG(x:Int):Bool:=decide (0≤x∧x < 12)
def nub:List Int→List Int
 | []=>[]
 | x::l=>x::(nub l).filter fun y=>decide (y≠x)
theorem zzG{y:Int}:∀{l:List Int},y∈nub l↔y∈l
 | []=>Iff.rfl
 |
  x::l=>by
  rw[nub,Wc,Wv,zzG,Wc,decide_eq_true_eq]
  by_cases h:y=x<;>simp[h]
theorem zuD:∀(l:List Int),(nub l).Nodup
 | []=>List.nodup_nil
 | x::l=>Wu.2 ⟨fun h=>absurd rfl (of_decide_eq_true (Wv.1 h).2),(zuD l).filter _⟩
theorem zAq:∀(l:List Int),(nub l).length≤l.length
 | []=>Wh _
 |
  x::l=>by
  rw[nub,Wj,Wj];exact Nat.succ_le_succ (Wd (W9 _ _) (zAq l))
theorem znn{x:Int}:∀{l:List Int}{s:MS},x∈s.keys→addL s (l.filter fun y=>decide (y≠x))=addL s l
 | [],s,_=>rfl
 |
  y::l,s,h=>by
  by_cases hy:y=x
  · subst hy;rw[List.filter_cons_of_neg (by simp),znn h];show _=addL (add1 s y) l;rw[show add1 s y=s from if_pos h]
  ·
   rw[List.filter_cons_of_pos (by simp[hy])];show addL (add1 s y) _=addL (add1 s y) l;refine znn ?_;rw[zqt];split
   · exact h
   · exact Ww.2 (.inl h)
theorem ztt:∀{l:List Int}{s:MS},addL s (nub l)=addL s l
 | [],s=>rfl
 |
  x::l,s=>by
  show addL (add1 s x) ((nub l).filter fun y=>decide (y≠x))=addL (add1 s x) l;rw[znn,ztt];rw[zqt];split
  · assumption
  · exact Ww.2 (.inr (Wx.2 rfl))
theorem zsr{l:List Int}{s:MS}:s.2.length≤(addL s l).2.length∧(addL s l).1≤s.1+(nub l).length∧(addL s l).2.length≤s.2.length+(nub l).length:=by rw[←ztt];exact zdN
theorem zzr{l:List Int}{s:MS}(h:s.ok)(h1:s.1+(nub l).length≤1000000)(h2:s.2.length+(nub l).length≤1000000):(addL s l).ok:=by rw[←ztt];exact zkE h h1 h2
theorem zBr(l:List Int):(nub (l.filter inG)).length≤12:=by
 have:=List.Nodup.length_le_of_subset (zuD (l.filter inG)) (l₂:=(Wa 12).map fun(v:Nat)=>(v:Int)) fun x hx=>by have h2:=of_decide_eq_true (Wv.1 (zzG.1 hx)).2;exact Wl.2 ⟨x.toNat,Wy.2 (by omega),by omega⟩
 simpa using this
def zlv(l:List Sgn)(at' exit:List Int)(s:St):List Int:=if s.op=5 then (zbc l at' s.tgt).args.filter inG else if s.op=9 then exit else []
def befT(l:List Sgn)(at' exit:List Int)(s:St)(a:MS):MS:=addL (addL (delL a (zkw s)) (ziV s)) (zlv l at' exit s)
theorem zBG{l:List Sgn}{at' exit:List Int}{s:St}{n:Nat}(hx:exit.length≤n)(h12:12≤n):(nub (zlv l at' exit s)).length≤n:=by
 unfold zlv;split
 · exact Wd (zBr _) h12
 ·
  split
  · exact Wd (zAq _) hx
  · exact Wf _
theorem zEh{l:List Sgn}{at' exit:List Int}{s:St}{a:MS}{n:Nat}(h:a.ok)(hm:(nub (zlv l at' exit s)).length≤n)(h1:a.1+z7 s.e+n≤1000000)(h2:a.2.length+z7 s.e+n≤1000000):
  (befT l at' exit s a).ok∧(befT l at' exit s a).1≤a.1+z7 s.e+n∧(befT l at' exit s a).2.length≤a.2.length+z7 s.e+n:=by
 obtain⟨d1,d2,d3⟩:=zvb (l:=zkw s) h;have hu:=zrj s;have u1:=zdN (l:=ziV s) (s:=delL a (zkw s));have u2:=zkE (l:=ziV s) d1 (by omega) (by omega);unfold befT;have e1:=zsr (l:=zlv l at' exit s) (s:=addL (delL a (zkw s)) (ziV s));have e2:=zzr (l:=zlv l at' exit s) u2 (by omega) (by omega);exact⟨e2,by omega,by omega⟩
theorem zxq{l:List Sgn}{at' exit:List Int}{s:St}{a:MS}(y:Int):y∈(befT l at' exit s a).keys↔(y∈a.keys∧y∉zkw s)∨y∈ziV s∨y∈zlv l at' exit s:=by unfold befT;rw[zji,zji,zxc,or_assoc]
def zdO(ex:Bool):List Int:=if ex then (Wa 12).map (fun(v:Nat)=>(v:Int)) else []
theorem zuS{ex:Bool}{v:Int}(hv:0≤v):v∈zdO ex↔ex=true∧v < 12:=by
 unfold zdO;cases ex
 · simp
 ·
  simp only[if_true,Wl,Wy,true_and];constructor
  · rintro⟨n,hn,rfl⟩;omega
  · intro h;exact⟨v.toNat,by omega,by omega⟩
theorem zuA{y:Int}:∀{l:List Ex},y∈zds l↔∃e∈l,y∈occX e
 | []=>by rw[zds];simp
 |
  x::l=>by
  rw[zds,Ww,zuA];simp
theorem zCl{l:List Sgn}{at':List Int}{ex:Bool}{s:St}{a:MS}{v:Int}(hv:0≤v):decide (v∈(befT l at' (zdO ex) s a).keys)=zvX l at' ex v s (decide (v∈a.keys)):=by
 have hu:v∈ziV s↔∃e∈s.e,v∈zhi e:=by
  unfold ziV;rw[znV,zuA];simp only[WF,false_or];constructor
  · rintro⟨e,he,h⟩;exact⟨e,he,(zki e).2 h⟩
  · rintro⟨e,he,h⟩;exact⟨e,he,(zki e).1 h⟩
 have hm:v∈zlv l at' (zdO ex) s↔(if s.op=5 then decide (v < 12)&&decide (v∈(zbc l at' s.tgt).args) else decide (s.op=9)&&ex&&decide (v < 12))=true:=by
  unfold zlv;split
  ·
   rw[Wv];unfold inG;simp only[decide_eq_true_eq,Wq];constructor
   · rintro⟨h1,h2⟩;exact⟨h2.2,h1⟩
   · rintro⟨h1,h2⟩;exact⟨h2,hv,h1⟩
  ·
   split
   · rename_i h9;rw[zuS hv];simp[h9]
   · rename_i h9;simp[h9]
 have hd:v∈zkw s↔(s.op=1∨s.op=3)∧s.var=v:=by
  unfold zkw;split
  · rename_i h;simp[h,eq_comm]
  · rename_i h;simp[h]
 unfold zvX usesV;rw[Bool.eq_iff_iff,decide_eq_true_eq,zxq,hu,hm,hd];simp only[Bool.or_eq_true,WO,decide_eq_true_eq]
 by_cases h:(s.op=1∨s.op=3)∧s.var=v
 · rw[if_pos h];simp[h]
 · rw[if_neg h];simp[h]
theorem zok{ps:List (Int × Int)}{j:Nat}{v:Int}(hj:j < ps.length)(h:ps[j].1=v):((enL ps).map cm).set j [.int .i64 v,.bool true,(((enL ps).map cm).getD j []).getD 2 .undef]=(enL ps).map cm:=by
 have hl:j < (enL ps).length:=by simpa [enL] using hj
 have hg:((enL ps).map cm).getD j []=[.int .i64 ps[j].1,.bool true,.int .i64 ps[j].2]:=by rw[zn (f:=cm) hl];simp[enL,cm]
 rw[hg];simp only[W0,WZ,←h]
 have:[AV.int .i64 ps[j].1,.bool true,.int .i64 ps[j].2]=((enL ps).map cm)[j]'(by simpa using hl):=by simp[enL,cm]
 rw[this];exact List.set_getElem_self _
def bfH(a:MS)(c:Int)(es:List TE):AH:=[(0,.row 3 ((setM a.1 a.2).map cm) 0),(1,.row 3 (tabM c es) 0)]
theorem zzH{s:MS}{l:List Int}{p:Int→Bool}{i:Nat}(h:i < l.length):addL s ((l.take (i+1)).filter p)=if p l[i] then add1 (addL s ((l.take i).filter p)) l[i] else addL s ((l.take i).filter p):=by
 rw[Waa h,List.filter_append];unfold addL;rw[List.foldl_append]
 by_cases hp:p l[i]=true
 · rw[if_pos hp];simp[hp]
 · rw[if_neg hp];simp[hp]
theorem Qu{p:Prop}(h:p:=by(try simp only[evWB,Nat.reduceBEq,Nat.reduceAdd,Nat.reduceSub,Nat.reduceLeDiff,Nat.reduceLT,implies_true,ze,za,St.cells])<;>(repeat' with_reducible apply And.intro)<;>first | (first|exact zb|exact zg;done)|exact fin6):p:=h
theorem Qw{A0 A1 A2 A3 p:Prop}(a0:A0)(a1:A1)(a2:A2)(a3:A3)(h:A0→A1→A2→A3→p:=by intro a0 a1 a2 a3;(try simp only[evWB,Nat.reduceBEq,Nat.reduceAdd,Nat.reduceSub,Nat.reduceLeDiff,Nat.reduceLT,implies_true,a0,a1,a2,a3])<;>(repeat' with_reducible apply And.intro)<;>first | (first|exact zb|exact zg;done)|exact fin6):p:=h a0 a1 a2 a3
theorem Qx{A0 A1 A2 A3 A4 p:Prop}(a0:A0)(a1:A1)(a2:A2)(a3:A3)(a4:A4)(h:A0→A1→A2→A3→A4→p:=by intro a0 a1 a2 a3 a4;(try simp only[evWB,Nat.reduceBEq,Nat.reduceAdd,Nat.reduceSub,Nat.reduceLeDiff,Nat.reduceLT,implies_true,a0,a1,a2,a3,a4])<;>(repeat' with_reducible apply And.intro)<;>first | (first|exact zb|exact zg;done)|exact fin6):p:=h a0 a1 a2 a3 a4
theorem znK (a:MS) (s:St) (l:List Sgn) (at' exit:List Int) (c:Int) (es:List TE) (ht:TabS l at' es) (ha:a.ok) (hsz:z7 s.e≤100000) (n:Nat) (hn:n≤100000) (hx:exit.length≤n) (h12:12≤n) (hc:∀a,(zbc l at' a).args.length≤9223372036854775807)
  (h1:a.1+z7 s.e+n≤1000000) (h2:a.2.length+z7 s.e+n≤1000000) :
  zU Tryz.prog zcp [.mp 0 0,.agg s.cells,.mp 1 0,za exit] (bfH a c es) 2
  (fun v H nx=>v=.tup []∧H=bfH (befT l at' exit s a) c es∧nx=2):=by
 refine zR (fn_x zic rfl ?_)
 unfold zd8;conv in dcC _ _=>cbv
 have hB:=hBig;have hdef:=zlq s;have huse:=zpD s hsz;have hu:=zrj s;have hb:befT l at' exit s a=addL (addL (delL a (zkw s)) (ziV s)) (zlv l at' exit s):=rfl;rw[hb]
 have hmore:zlv l at' exit s=if s.op=5 then (zbc l at' s.tgt).args.filter inG else if s.op=9 then exit else []:=rfl
 rw[hmore];have htc:=zoG ht s.tgt;have hca:=hc s.tgt;generalize zbc l at' s.tgt=cs0 at htc hca ⊢;have hmf:=zo5 (a:=s.tgt) (es:=es) (i:=0);generalize zkw s=ds at hdef ⊢;generalize ziV s=us at huse hu ⊢
 have hok:=fun i=>zvb (l:=ds.take i) ha
 obtain⟨op,var,width,next,els,tgt,e,cs⟩:=s;simp only at h1 h2 hu htc hmf ⊢;unfold bfH;(refine Gw2 @uc @ua ?_;intros);refine zi (zf hdef rfl) ?_;(refine Gw1 @ua ?_;intros)
 refine zd (fun i:Nat=>([(0,.mp 0 0),(2,.mp 1 0),(3,za exit),(5,encP 8 (St.cells ⟨op,var,width,next,els,tgt,e,cs⟩)),(17,za ds),(18,.int .i64 ds.length),(19,.int .i64 i)],[(0,.row 3 ((setM (delL a (ds.take i)).1 (delL a (ds.take i)).2).map cm) 0),(1,.row 3 (tabM c es) 0)])) 2
  (fun i=>i≤ds.length) (fun i=>ds.length - i) 0 (Wf _) (by rw[WG,show delL a []=a from rfl];exact(Ent.tabB [(0,0,0),(1,1,0)] [] rfl rfl rfl Qu Qu)) ?_
 rintro i hi wf;clear wf
 unfold zdb;conv in dcC _ _=>cbv
 by_cases hil:i < ds.length
 case pos =>
  have hgl:(ds.map fun n=>[AV.int .i64 n]).getD i []=[.int .i64 ds[i]]:=zn (f:=fun n=>[AV.int .i64 n]) hil;have htk:=zz9 (s:=a) hil;obtain⟨g1,g2,g3⟩:=hok i;generalize delL a (ds.take i)=b at g1 g2 g3 htk ⊢;obtain⟨cc,ps⟩:=b
  by_cases hm:ds[i]∈ps.map (·.1)
  ·
   obtain⟨j,hj,hje,hf⟩:=zgr hm
   have e1:del1 (cc,ps) ds[i]=(cc,ps.eraseIdx j):=by unfold del1;rw[zpm g1.keys hj hje]
   rw[e1] at htk
   (repeat first|simp(disch:=try exact dis1) only[evD,Nat.reduceBEq,Nat.reduceAdd,Nat.reduceLeDiff,dT,hgl,za,ze,evM,ztK,hf,mdTo,zAc]|with_reducible first|intro _|refine aJ ?_)
   exact⟨i+1,hil,by omega,(Ent.tabB [(0,0,0),(1,1,0)] [] rfl rfl rfl (Qw @ze @ua @uc htk) (Qw @ze @ua @uc htk))⟩
  ·
   have hf:=zeH hm;have e1:del1 (cc,ps) ds[i]=(cc,ps):=zu6 hm;rw[e1] at htk
   (repeat first|simp(disch:=try exact dis1) only[evD,Nat.reduceBEq,Nat.reduceAdd,Nat.reduceLeDiff,dT,hgl,za,ze,evM,ztK,hf,mdTo]|with_reducible first|intro _|refine aJ ?_)
   exact⟨i+1,hil,by omega,(Ent.tabB [(0,0,0),(1,1,0)] [] rfl rfl rfl (Qw @ze @ua @uc htk) (Qw @ze @ua @uc htk))⟩
 obtain⟨g1,g2,g3⟩:=hok ds.length;rw[Wm] at g1 g2 g3;rw[show i=ds.length by omega,Wm];generalize delL a ds=b at g1 g2 g3 ⊢;clear hok hdef;(refine Qd ?_;intros)
 unfold zdh;conv in dcC _ _=>cbv
 (refine Gw3 @encP.eq_1 @ua @uc ?_;intros);refine zi (zf huse rfl) ?_;(refine Gw1 @ua ?_;intros)
 refine zd (fun i:Nat=>([(0,.mp 0 0),(2,.mp 1 0),(3,za exit),(5,encP 8 (St.cells ⟨op,var,width,next,els,tgt,e,cs⟩)),(27,za us),(28,.int .i64 us.length),(29,.int .i64 i)],[(0,.row 3 ((setM (addL b (us.take i)).1 (addL b (us.take i)).2).map cm) 0),(1,.row 3 (tabM c es) 0)])) 2
  (fun i=>i≤us.length) (fun i=>us.length - i) 0 (Wf _) (by rw[WG,show addL b []=b from rfl];exact(Ent.tabB [(0,0,0),(1,1,0)] [] rfl rfl rfl Qu Qu)) ?_
 rintro i hi wf;clear wf
 unfold zdg;conv in dcC _ _=>cbv
 by_cases hil:i < us.length
 case pos =>
  have hgl:(us.map fun n=>[AV.int .i64 n]).getD i []=[.int .i64 us[i]]:=zn (f:=fun n=>[AV.int .i64 n]) hil;have htk:=zim (s:=b) hil;have hbd:=zdN (l:=us.take i) (s:=b);rw[Wn] at hbd;have g4:=zkE (l:=us.take i) g1 (by rw[Wn];omega) (by rw[Wn];omega);generalize addL b (us.take i)=d at g4 hbd htk ⊢;obtain⟨cc,ps⟩:=d;have htop:=g4.top;simp only at hbd htop
  by_cases hm:us[i]∈ps.map (·.1)
  · obtain⟨j,hj,hje,hf⟩:=zgr hm;have e1:add1 (cc,ps) us[i]=(cc,ps):=if_pos hm;rw[e1] at htk;have hov:=zok hj hje;(refine Gw6 @dT hgl @ua @ze hf hov ?_;intros);exact⟨i+1,hil,by omega,(Ent.tabB [(0,0,0),(1,1,0)] [] rfl rfl rfl (Qw @ze @ua @uc htk) (Qw @ze @ua @uc htk))⟩
  · have hf:=zeH hm;have e1:add1 (cc,ps) us[i]=(cc+1,ps++[(us[i],cc)]):=if_neg hm;rw[e1] at htk;(refine Gw5 @dT hgl @ua @ze hf ?_;intros);exact⟨i+1,hil,by omega,(Ent.tabB [(0,0,0),(1,1,0)] [] rfl rfl rfl (Qx @ze @ua @uc htk @zfk) (Qx @ze @ua @uc htk @zfk))⟩
 have hb1:=zdN (l:=us) (s:=b);have hb2:=zkE (l:=us) g1 (by omega) (by omega);rw[show i=us.length by omega,Wm];generalize addL b us=d at hb1 hb2 ⊢;(refine Qd ?_;intros)
 unfold zdf;conv in dcC _ _=>cbv
 by_cases h5:op=5
 ·
  rw[if_pos h5];cases hat:atT es tgt
  case' none =>
   rw[hat] at htc hmf;simp only at htc hmf;subst htc;(refine Gw7 @dT @dF @ub @ur hmf @uc @ua ?_;intros;try with_reducible exact trivial)
  case' some j =>
   rw[hat] at htc hmf;simp only at htc hmf;rw[htc] at hmf;(refine Gw8 @dT @dF @ub @ur hmf @Sgn.cells.eq_1 @uc @ua ?_;intros;try with_reducible exact trivial)
  case' none =>
   have hA:zbF.args=[]:=rfl
  case' some j =>
   have hA:cs0.args=cs0.args:=rfl
  case' none=>generalize hAA:zbF.args=A at hA hca ⊢
  case' some j=>generalize hAA:cs0.args=A at hA hca ⊢
  all_goals
   refine zd (fun i:Nat=>([(0,.mp 0 0),(44,za A),(45,.int .i64 A.length),(46,.int .i64 i)],[(0,.row 3 ((setM (addL d ((A.take i).filter inG)).1 (addL d ((A.take i).filter inG)).2).map cm) 0),(1,.row 3 (tabM c es) 0)])) 2 (fun i=>i≤A.length) (fun i=>A.length - i) 0 (Wf _) (by rw[WG,List.filter_nil,show addL d []=d from rfl];exact(Ent.tabB [(0,0,0),(1,1,0)] [] rfl rfl rfl (Qw @ze @ua @uc hA) (Qw @ze @ua @uc hA))) ?_;rintro i hi wf;clear wf
   unfold zda;conv in dcC _ _=>cbv
   by_cases hil:i < A.length
   case pos =>
    have hgl:(A.map fun n=>[AV.int .i64 n]).getD i []=[.int .i64 A[i]]:=zn (f:=fun n=>[AV.int .i64 n]) hil;have htk:=zzH (s:=d) (p:=inG) hil;have hfl:=zBr (A.take i);have hbd:=zsr (l:=(A.take i).filter inG) (s:=d);have g4:=zzr (l:=(A.take i).filter inG) hb2 (by omega) (by omega);generalize addL d ((A.take i).filter inG)=f at g4 hbd htk ⊢
    by_cases hin0:0≤A[i]
    case neg =>rw[if_neg (by unfold inG;simp;omega)] at htk;(refine Gw4 @dT @dF hgl @ua ?_;intros);exact⟨i+1,hil,by omega,(Ent.tabB [(0,0,0),(1,1,0)] [] rfl rfl rfl (Qw @ze @ua @uc htk) (Qw @ze @ua @uc htk))⟩
    by_cases hin:A[i] < 12
    case neg =>rw[if_neg (by unfold inG;simp;omega)] at htk;(refine Gw4 @dT @dF hgl @ua ?_;intros);exact⟨i+1,hil,by omega,(Ent.tabB [(0,0,0),(1,1,0)] [] rfl rfl rfl (Qw @ze @ua @uc htk) (Qw @ze @ua @uc htk))⟩
    rw[if_pos (by unfold inG;simp;omega)] at htk;obtain⟨cc,ps⟩:=f;have htop:=g4.top;simp only at hbd htop
    by_cases hm:A[i]∈ps.map (·.1)
    · obtain⟨j,hj,hje,hf⟩:=zgr hm;have e1:add1 (cc,ps) A[i]=(cc,ps):=if_pos hm;rw[e1] at htk;have hov:=zok hj hje;(refine Gw6 @dT hgl @ua @ze hf hov ?_;intros);exact⟨i+1,hil,by omega,(Ent.tabB [(0,0,0),(1,1,0)] [] rfl rfl rfl (Qw @ze @ua @uc htk) (Qw @ze @ua @uc htk))⟩
    · have hf:=zeH hm;have e1:add1 (cc,ps) A[i]=(cc+1,ps++[(A[i],cc)]):=if_neg hm;rw[e1] at htk;(refine Gw5 @dT hgl @ua @ze hf ?_;intros);exact⟨i+1,hil,by omega,(Ent.tabB [(0,0,0),(1,1,0)] [] rfl rfl rfl (Qx @ze @ua @uc htk @zfk) (Qx @ze @ua @uc htk @zfk))⟩
   rw[show i=A.length by omega,Wm];(refine Gw2 @dF @za2.eq_1 ?_;intros);exact⟨_,_,_,(Ent.tabB [(0,0,0),(1,1,0)] [] rfl rfl rfl Qu Qu),rfl,rfl,rfl⟩
 rw[if_neg h5]
 by_cases h9:op=9
 ·
  rw[if_pos h9];(refine Gw5 @dT @dF @ub @uc @ua ?_;intros);refine zd (fun i:Nat=>([(0,.mp 0 0),(61,za exit),(62,.int .i64 exit.length),(63,.int .i64 i)],[(0,.row 3 ((setM (addL d (exit.take i)).1 (addL d (exit.take i)).2).map cm) 0),(1,.row 3 (tabM c es) 0)])) 2 (fun i=>i≤exit.length) (fun i=>exit.length - i) 0 (Wf _) (by rw[WG,show addL d []=d from rfl];exact(Ent.tabB [(0,0,0),(1,1,0)] [] rfl rfl rfl Qu Qu)) ?_;rintro i hi wf;clear wf
  unfold zdj;conv in dcC _ _=>cbv
  by_cases hil:i < exit.length
  case pos =>
   have hgl:(exit.map fun n=>[AV.int .i64 n]).getD i []=[.int .i64 exit[i]]:=zn (f:=fun n=>[AV.int .i64 n]) hil;have htk:=zim (s:=d) hil;have hbd:=zdN (l:=exit.take i) (s:=d);rw[Wn] at hbd;have g4:=zkE (l:=exit.take i) hb2 (by rw[Wn];omega) (by rw[Wn];omega);generalize addL d (exit.take i)=f at g4 hbd htk ⊢;obtain⟨cc,ps⟩:=f;have htop:=g4.top;simp only at hbd htop
   by_cases hm:exit[i]∈ps.map (·.1)
   · obtain⟨j,hj,hje,hf⟩:=zgr hm;have e1:add1 (cc,ps) exit[i]=(cc,ps):=if_pos hm;rw[e1] at htk;have hov:=zok hj hje;(refine Gw6 @dT hgl @ua @ze hf hov ?_;intros);exact⟨i+1,hil,by omega,(Ent.tabB [(0,0,0),(1,1,0)] [] rfl rfl rfl (Qw @ze @ua @uc htk) (Qw @ze @ua @uc htk))⟩
   · have hf:=zeH hm;have e1:add1 (cc,ps) exit[i]=(cc+1,ps++[(exit[i],cc)]):=if_neg hm;rw[e1] at htk;(refine Gw5 @dT hgl @ua @ze hf ?_;intros);exact⟨i+1,hil,by omega,(Ent.tabB [(0,0,0),(1,1,0)] [] rfl rfl rfl (Qx @ze @ua @uc htk @zfk) (Qx @ze @ua @uc htk @zfk))⟩
  rw[show i=exit.length by omega,Wm];(refine Gw2 @dF @za2.eq_1 ?_;intros);exact⟨_,_,_,(Ent.tabB [(0,0,0),(1,1,0)] [] rfl rfl rfl Qu Qu),rfl,rfl,rfl⟩
 · rw[if_neg h9];(refine Gw6 @dT @dF @ub @uc @ua @za2.eq_1 ?_;intros);exact⟨_,_,_,(Ent.tabB [(0,0,0),(1,1,0)] [] rfl rfl rfl Qu Qu),rfl,rfl,rfl⟩
def mps(F n:Nat):List (List AV):=(Wa n).map fun i=>[.mp F (i+1)]
theorem zsL{F n:Nat}:(mps F n).length=n:=by simp[mps]
theorem ztw{F n i:Nat}(h:i < n):(mps F n).getD i []=[.mp F (i+1)]:=by simp[mps,List.getD_eq_getElem?_getD,h]
theorem zxm{H HH:AH}{σ:Nat→Nat→Option (Nat × Nat × Nat)}{D:Nat→Nat→Prop}{F F' n:Nat}(h:∀i,σ F' (i+1)=some (F,i+1,0)):RowV H HH σ D (mps F n) (mps F' n):=by
 refine⟨by simp[mps],fun i c2 hi=>?_⟩;unfold mps at hi ⊢;simp only[WP,WQ] at hi ⊢;obtain⟨k,hk,rfl⟩:=hi;refine⟨_,⟨k,hk,rfl⟩,rfl,fun j x y h1 h2=>?_⟩
 cases j with
 | succ j=>cases h1
 |
  zero =>
  cases h1;cases h2;exact .mp _ _ _ _ (h k)
theorem zBH{s:MS}{l:List Int}{v:Int}:addL s (l++[v])=add1 (addL s l) v:=by unfold addL;rw[List.foldl_append];rfl
def atH(n:Nat)(S:Nat→MS):AH:=[(0,.row 1 (mps 1 n) 0),(1,famS n S)]
def outY(S:Nat→MS)(E:List Nat)(y:Int):Prop:=∃t∈E,y∈(S t).keys
theorem Qp{p:Prop}(h:p:=by(try simp only[evWB,Nat.reduceBEq,Nat.reduceAdd,Nat.reduceSub,Nat.reduceLeDiff,Nat.reduceLT,implies_true,ze,famS,za,addL,List.map_nil,List.foldl_nil])<;>exact fin8):p:=h
theorem uf:type_of% @famS.eq_1:=@famS.eq_1
theorem zo3(b:Bl)(hcs:∀s∈b.stmts,s.cases.length≤100000000)(n:Nat)(S:Nat→MS)(E:List Nat)(hE:zav b.stmts=E.map fun(t:Nat)=>(t:Int))(hEn:∀t∈E,t < n)(hEl:E.length≤1000)(hnn:n≤1000)(U:Nat)(hEU:E.length * U≤900000)(hS:∀i,i < n→(S i).ok∧(S i).2.length≤U):
  zU Tryz.prog zhk [.agg b.cells,.own 0 0 0 0 n] (atH n S) 2
  (fun v H nx=>v=.mp 2 0∧nx=3∧∃a:MS,H=atH n S++[(2,.row 3 ((setM a.1 a.2).map cm) 0)]∧a.ok∧a.1≤((E.length * U:Nat):Int)∧a.2.length≤E.length * U∧∀y,y∈a.keys↔outY S E y):=by
 refine zR (fn_x zoN rfl ?_)
 unfold zj7;conv in dcC _ _=>cbv
 have hB:=hBig;have hsu:=zhp b hcs;rw[hE] at hsu;obtain⟨bad,bst⟩:=b;simp only[Bl.cells,atH] at hsu ⊢;(refine Gw4 @ub @zP @uf @ua ?_;intros);refine zi (zf hsu rfl) ?_;(refine Gw2 @ua @m9M ?_;intros);generalize hts:E.map (fun(t:Nat)=>(t:Int))=ts at hsu ⊢
 refine zd (fun s:Nat × MS=>([(1,.own 0 0 0 0 n),(5,.mp 2 0),(11,za ts),(12,.int .i64 E.length),(13,.int .i64 s.1)],[(0,.row 1 (mps 1 n) 0),(1,famS n S),(2,.row 3 ((setM s.2.1 s.2.2).map cm) 0)])) 3
  (fun s=>s.1≤E.length∧s.2.ok∧s.2.1≤((s.1 * U:Nat):Int)∧s.2.2.length≤s.1 * U∧∀y,y∈s.2.keys↔outY S (E.take s.1) y) (fun s=>E.length - s.1) (0,(0,[])) ⟨Wf _,zti,by simp,by simp,fun y=>by simp[MS.keys,outY]⟩ (Ent.tabB [(0,0,0),(1,1,0),(2,2,0)] [] rfl rfl rfl (Gin8_3 @ze @uf @ua) (Gin8_3 @ze @uf @ua)) ?_
 rintro⟨j,s⟩ ⟨hj,hsok,hs1,hs2,hsk⟩ wf;simp only at hj hsok hs1 hs2 hsk;clear wf
 unfold zh0;conv in dcC _ _=>cbv
 by_cases hjl:j < E.length
 case neg =>
  obtain rfl:j=E.length:=by omega
  rw[Wm] at hsk;(refine Qd ?_;intros);unfold zhX;(refine Gw1 @zkq.eq_1 ?_;intros);exact⟨_,_,_,(Ent.tabB [(0,0,0),(1,1,0),(2,2,0)] [] rfl rfl rfl (Gin8_2 @ze @uf) (Gin8_2 @ze @uf)),rfl,rfl,s,rfl,hsok,hs1,hs2,hsk⟩
 have ge:(ts.map fun n=>[AV.int .i64 n]).getD j []=[.int .i64 (E[j]:Int)]:=by rw[←hts,Wk,zn (f:=_) hjl];rfl
 have htn:=hEn _ (Wr hjl)
 have hkt:∀y,outY S (E.take (j+1)) y↔outY S (E.take j) y∨y∈(S E[j]).keys:=fun y=>by
  unfold outY;rw[Waa hjl];simp only[Ww,Wx];constructor
  ·
   rintro⟨t,h|rfl,h2⟩
   · exact .inl ⟨t,h,h2⟩
   · exact .inr h2
  ·
   rintro(⟨t,h,h2⟩|h)
   · exact⟨t,.inl h,h2⟩
   · exact⟨_,.inr rfl,h⟩
 generalize E[j]=t at ge htn hkt;obtain⟨hSt,hSU⟩:=hS t htn
 have hlts:j < ts.length:=by rw[←hts,WA];exact hjl
 have hjU:(j+1) * U≤900000:=Wd (Wab U (show j+1≤E.length by omega)) hEU;rw[WH] at hjU
 have hg:∀T:AH,AH.get ((0,.row 1 (mps 1 n) 0)::(1,famS n S)::T) 1 (t+1)=some (.row 3 ((setM (S t).1 (S t).2).map cm) 0):=fun T=>by unfold AH.get famS;simp only[AH.look,zep,cond_true,cond_false,show Nat.beq 0 1=false from rfl,show Nat.beq 1 1=true from rfl,WI,AObj.part,zm9 htn,We]
 have hg2:=hg [];unfold famS at hg;obtain⟨c,hc⟩:∃c,(S t).1=c:=⟨_,rfl⟩;obtain⟨ps,hps⟩:∃ps,(S t).2=ps:=⟨_,rfl⟩
 have hSt2:SetS c ps:=by rw[←hc,←hps];exact hSt
 have hct:∀y,y∈(S t).keys↔y∈ps.map (·.1):=fun y=>by rw[←hps];rfl
 rw[hps] at hSU
 (repeat first|simp(disch:=try exact dis1) only[evD,Nat.reduceBEq,Nat.reduceAdd,Nat.reduceLeDiff,dT,ge,za,WR,ztw htn,zsL,famS,evM,zm9 htn,hc,hps,ze,zu8]|with_reducible first|intro _|refine aJ ?_)
 refine zd (fun sel:List (Int × Int)=>([(1,.own 0 0 0 0 n),(5,.mp 2 0),(11,za ts),(12,.int .i64 E.length),(13,.int .i64 j),(21,.it 3)],[(0,.row 1 (mps 1 n) 0),(1,famS n S),(2,.row 3 ((setM (addL s (sel.map (·.1))).1 (addL s (sel.map (·.1))).2).map cm) 0),(3,.row 1 ([.mp 1 (t+1)]::[.int .i64 c]::[.int .i64 c]::sel.map fun p=>[.int .i64 p.2]) 0)])) 4
  (fun sel=>sel.Nodup∧∀p∈sel,p∈ps) (fun sel=>ps.length - sel.length) [] ⟨List.nodup_nil,fun p h=>by cases h⟩ (Ent.tabB [(0,0,0),(1,1,0),(2,2,0),(3,3,0)] [] rfl rfl rfl Qp Qp) ?_
 rintro sel ⟨hnd,hsub⟩ wf;clear wf;have hpn:ps.Nodup:=zlS hSt2.keys;have hsl:sel.length≤ps.length:=List.Nodup.length_le_of_subset hnd hsub;have hbd:=zdN (l:=sel.map (·.1)) (s:=s);rw[WA] at hbd;have hak:=zkE (l:=sel.map (·.1)) hsok (by rw[WA];omega) (by rw[WA];omega)
 have hmk:=fun y=>zji (y:=y) (l:=sel.map (·.1)) (s:=s)
 have hsn:=fun v=>zBH (s:=s) (l:=sel.map (·.1)) (v:=v)
 generalize addL s (sel.map (·.1))=d at hbd hak hmk hsn ⊢
 unfold zhO;conv in dcC _ _=>cbv
 simp only[famS];(refine Gw0 ?_;intros);refine zxJ (ps:=ps) (sel:=sel) (c:=c) rfl (by rw[hg];rw[hc,hps]) (by omega) hSt2.lt hSt2.borns hsub (fun hall=>?_) (fun p hp hns=>?_)
 · have hperm:=zxu hnd hpn hsub hall;(refine Gw0 ?_;intros);unfold zhK;(refine Gw0 ?_;intros);refine⟨(j+1,d),⟨hjl,hak,by simp only;rw[WH];omega,by simp only;rw[WH];omega,fun y=>?_⟩,by simp only;omega,(Ent.tabB [(0,0,0),(1,1,0),(2,2,0)] [] rfl rfl rfl (Gin8_3 @ze @uf @ua) (Gin8_3 @ze @uf @ua))⟩;simp only;rw[hmk,hsk,hkt,hct];have:y∈sel.map (·.1)↔y∈ps.map (·.1):=(hperm.map _).mem_iff;rw[this]
 ·
  have hent:=fun(H:AH) (nx:Nat) (hr) (hm)=>zxr (H:=H) (nx:=nx) (r:=3) (rm:=1) (qm:=t+1) (c:=c) (since:=c) (sel:=sel) (p:=p) hr hm hSt2.borns hp
  (refine Gw0 ?_;intros);rw[hent _ _ rfl (by rw[hg];rw[hc,hps])];have hs1':=hsn p.1;have htop:=hak.top;obtain⟨cc,qs⟩:=d;simp only at htop hbd
  have hfin:∀(K:Kn)(H:AH)(nx:Nat),Ent 2 K H nx [(1,.own 0 0 0 0 n),(5,.mp 2 0),(11,za ts),(12,.int .i64 E.length),(13,.int .i64 j),(21,.it 3)] [(0,.row 1 (mps 1 n) 0),(1,famS n S),(2,.row 3 ((setM (addL s ((sel++[p]).map (·.1))).1 (addL s ((sel++[p]).map (·.1))).2).map cm) 0),(3,.row 1 ([.mp 1 (t+1)]::[.int .i64 c]::[.int .i64 c]::(sel++[p]).map fun p=>[.int .i64 p.2]) 0)] 4 →
    ∃a':List (Int × Int),(a'.Nodup∧∀p∈a',p∈ps)∧ps.length - a'.length < ps.length - sel.length∧Ent 2 K H nx [(1,.own 0 0 0 0 n),(5,.mp 2 0),(11,za ts),(12,.int .i64 E.length),(13,.int .i64 j),(21,.it 3)] [(0,.row 1 (mps 1 n) 0),(1,famS n S),(2,.row 3 ((setM (addL s (a'.map (·.1))).1 (addL s (a'.map (·.1))).2).map cm) 0),(3,.row 1 ([.mp 1 (t+1)]::[.int .i64 c]::[.int .i64 c]::a'.map fun p=>[.int .i64 p.2]) 0)] 4:=fun K H nx hE=>by
   refine⟨sel++[p],⟨?_,?_⟩,?_,hE⟩
   · rw[List.nodup_append];exact⟨hnd,by simp,fun a ha b hb e=>hns (by rw[Wx] at hb;rw[←hb,←e];exact ha)⟩
   ·
    intro a ha
    rcases Ww.1 ha with ha|ha
    · exact hsub a ha
    · rw[Wx] at ha;rw[ha];exact hp
   ·
    have:sel.length < ps.length:=by
     have:=List.Nodup.length_le_of_subset (Wu.2 ⟨hns,hnd⟩) (show ∀a∈p::sel,a∈ps from fun a ha=>by
      rcases Wc.1 ha with rfl|ha
      · exact hp
      · exact hsub a ha)
     simp only[Wj] at this;omega
    rw[WV,WW];omega
  have hmap:(sel++[p]).map (fun x:Int × Int=>x.1)=sel.map (·.1)++[p.1]:=by simp
  rw[hmap,hs1'] at hfin
  by_cases hm:p.1∈qs.map (·.1)
  · obtain⟨i,hi,hie,hf⟩:=zgr hm;rw[show add1 (cc,qs) p.1=(cc,qs) from if_pos hm] at hfin;have hov:=zok hi hie;(refine Gw3 @ze hf hov ?_;intros);exact hfin _ _ _ (Ent.tabB [(0,0,0),(1,1,0),(2,2,0),(3,3,0)] [] rfl rfl rfl (Gin8_6 @ze @uf @ua @m9P @m9C @m9N) (Gin8_6 @ze @uf @ua @m9P @m9C @m9N))
  · have hf:=zeH hm;rw[show add1 (cc,qs) p.1=(cc+1,qs++[(p.1,cc)]) from if_neg hm] at hfin;(refine Gw2 @ze hf ?_;intros);exact hfin _ _ _ (Ent.tabB [(0,0,0),(1,1,0),(2,2,0),(3,3,0)] [] rfl rfl rfl (Gin8_7 @ze @uf @ua @zfk @m9P @m9C @m9N) (Gin8_7 @ze @uf @ua @zfk @m9P @m9C @m9N))
def noSt:St:=⟨0,0,0,0,0,0,[],[]⟩
def zBK(ss:List St):Nat→Option (List AV × Nat)
 | 0=>none
 | i+1=>some ([.int .i64 (i:Int),.agg (ss.getD i noSt).cells],i)
def zBe(ss:List St):List AV:=[.iptr 1 fun j=>[encL 8 St.cells ss].getD j .undef]
theorem zzC(s:St):AV.Below 0 (.agg s.cells):=by
 obtain⟨op,var,width,next,els,tgt,e,cs⟩:=s
 refine .agg _ fun a ha=>?_
 simp only[St.cells,Wc,WF,or_false] at ha
 rcases ha with rfl|rfl|rfl|rfl|rfl|rfl|rfl|rfl
 all_goals first|exact .int _ _|exact .sl _ _ _
theorem zmz(ss:List St)(hs:ss.length≤1000000):ItOk Tryz.prog zah (zBe ss) [] 0 (zBK ss) (fun _=>True) ss.length (fun s _ _=>match s with|some s=>zBK ss s=none|none=>True):=by
 refine zC3 zeD rfl rfl fun E hE=>?_
 unfold zbS zBe;conv in dcC _ _=>cbv
 have hB:=hBig;refine WpA.seq (WpA.pure ?_);(refine Gw0 ?_;intros);rw[zgP];refine WpA.block (WpA.loop (fun x:Nat=>([(0,.fn (.yield E.lp) []),(1,.iptr 1 fun j=>[encL 8 St.cells ss].getD j .undef),(3,.int .i64 ((x:Int) - 1))],[],some x)) 0 (fun x=>x≤ss.length) (fun x=>x) ss.length (Wh _) ?_ rfl ?_)
 · rw[hE];exact(Ent.tab [] [] rfl Gin1_0 Gin1_0)
 ·
  intro x hx wf;clear wf
  unfold zbi;conv in dcC _ _=>cbv
  simp only;refine WpA.seq (WpA.seq (WpA.pure ?_));(refine Gw0 ?_;intros);rw[zgP]
  cases x with
  |
   zero =>
   refine WpA.cond (t:=false) (by show AV.bool (decide _)=_;simp) (fun h=>by cases h) (fun _=>WpA.pure ?_);(refine Gw0 ?_;intros);rfl
  |
   succ i =>
   refine WpA.cond (t:=true) (by show AV.bool (decide _)=_;simp<;>omega) (fun _=>WpA.pure ?_) (fun h=>by cases h);(refine Gw0 ?_;intros);rw[zgP]
   have e1:((((i+1:Nat):Int)) - 1)=(i:Int):=by omega
   have hil:i < ss.length:=by omega
   have gi:(ss.map St.cells).getD i []=(ss.getD i noSt).cells:=by rw[zn (f:=St.cells) hil];simp[Wi,hil]
   simp only[e1];refine WpA.seq (WpA.block (WpA.seq (WpA.region ?_)));refine WpAL.pre (pre:=[_,_,_,_,_,_]) rfl ?_;have hflat:∀s:St,[s.cells.getD 0 .undef,s.cells.getD 1 .undef,s.cells.getD 2 .undef,s.cells.getD 3 .undef,s.cells.getD 4 .undef,s.cells.getD 5 .undef,s.cells.getD 6 .undef,s.cells.getD 7 .undef]=s.cells:=St.eight;(refine Gw5 @ub gi hflat @ue @zne ?_;intros);refine WpAL.yield (s':=i) rfl rfl ?_ (fun _=>WpAL.pre (pre:=[_]) rfl ?_) (WpAL.pre (pre:=[_]) rfl ?_)
   ·
    intro x hx
    rcases Wc.1 hx with h|h
    · rw[h];exact .int _ _
    ·
     rcases Wc.1 h with h|h
     · rw[h];exact zzC _
     · cases h
   · (refine Gw1 @zne ?_;intros);refine WpAL.nil ?_;rw[zgP];refine WpA.cond (t:=false) rfl (fun h=>by cases h) (fun _=>WpA.pure ?_);(refine Gw0 ?_;intros);rw[zsI,zgP];refine WpA.pure ?_;(refine Gw0 ?_;intros);rw[zuk];refine⟨i,by omega,by omega,?_,rfl⟩;rw[hE];exact(Ent.tab [] [] rfl Gin1_0 Gin1_0)
   · (refine Gw1 @zne ?_;intros);refine WpAL.nil ?_;rw[zgP];refine WpA.cond (t:=true) rfl (fun _=>WpA.pure ?_) (fun h=>by cases h);(refine Gw0 ?_;intros);trivial
theorem zyQ{l:List Sgn}{at':List Int}{ex:Bool}{v:Int}{s:St}{b b':Bool}(h:b=true→b'=true):zvX l at' ex v s b=true→zvX l at' ex v s b'=true:=by
 unfold zvX;simp only[Bool.or_eq_true];rintro(h1|h1)
 ·
  left;split at h1
  · cases h1
  · rename_i hn;rw[if_neg hn];exact h h1
 · exact .inr h1
theorem zuf{l:List Sgn}{at':List Int}{ex:Bool}{v:Int}:∀{ss:List St}{b b':Bool},(b=true→b'=true)→befV l at' ex v ss b=true→befV l at' ex v ss b'=true
 | [],_,_,h=>h
 | s::ss,b,b',h=>zyQ (zuf (ss:=ss) h)
theorem zAQ{g:G}{o o':List Bool}{b:Nat}(h:leB o o'):outV g o b=true→outV g o' b=true:=by unfold outV;simp only[WO];rintro⟨t,h1,h2⟩;exact⟨t,h1,h t h2⟩
theorem zme(g:G)(l:List Sgn)(at':List Int)(ex:Bool)(v:Int)(n:Nat):MonoF n (znx g l at' ex v):=⟨fun o o' b _ h=>zuf (zAQ h)⟩
def zgR(n:Nat)(S:Nat→MS)(y:Int):List Bool:=(Wa n).map fun b=>decide (y∈(S b).keys)
theorem zu3{n:Nat}{S:Nat→MS}{y:Int}:(zgR n S y).length=n:=by simp[zgR]
theorem zjR{n:Nat}{S:Nat→MS}{y:Int}{b:Nat}(hb:b < n):(zgR n S y).getD b false=decide (y∈(S b).keys):=by simp[zgR,Wi,hb]
theorem zzk{n:Nat}{S:Nat→MS}{y:Int}{k:Nat}{a:MS}(hk:k < n):zgR n (updF S k a) y=(zgR n S y).set k (decide (y∈a.keys)):=by
 refine Wac (by simp[zgR]) fun i h1 h2=>?_
 rw[W6];simp only[zgR,List.getElem_map,WB,updF]
 by_cases h:i=k
 · subst h;rw[if_pos rfl,if_pos rfl]
 · rw[if_neg h,if_neg (fun e=>h e.symm)]
def zoE(l:List Sgn)(at' exit:List Int)(ss:List St)(a:MS):MS:=ss.foldr (befT l at' exit) a
theorem zuq{l:List Sgn}{at':List Int}{ex:Bool}{v:Int}(hv:0≤v):∀{ss:List St}{a:MS},decide (v∈(zoE l at' (zdO ex) ss a).keys)=befV l at' ex v ss (decide (v∈a.keys))
 | [],_=>rfl
 |
  s::ss,a=>by
  show decide (v∈(befT l at' (zdO ex) s (zoE l at' (zdO ex) ss a)).keys)=zvX l at' ex v s (befV l at' ex v ss (decide (v∈a.keys)));rw[zCl hv,zuq hv]
structure UnivC(U:List Int)(g:G)(l:List Sgn)(at':List Int)(exit:List Int)(n:Nat):Prop where
 uses:∀b∈g.blocks,∀s∈b.stmts,∀x∈ziV s,x∈U
 more:∀b∈g.blocks,∀s∈b.stmts,∀x∈zlv l at' exit s,x∈U
 pos:∀x∈U,0≤x
 len:U.length≤50000
 mlen:∀b∈g.blocks,∀s∈b.stmts,(nub (zlv l at' exit s)).length≤n
 nlen:n≤1000
structure InU(U:List Int)(s:MS):Prop where
 ok:s.ok
 sub:∀x∈s.keys,x∈U
theorem InU.len{U:List Int}{s:MS}(h:InU U s):s.2.length≤U.length:=by
 have:=List.Nodup.length_le_of_subset h.ok.keys h.sub
 simpa using this
theorem zxB{U:List Int}{l:List Sgn}{at' exit:List Int}{n:Nat}(hn:n≤1000):∀{ss:List St}{a:MS},(∀s∈ss,(∀x∈ziV s,x∈U)∧(∀x∈zlv l at' exit s,x∈U)∧(nub (zlv l at' exit s)).length≤n∧z7 s.e≤300)→InU U a→a.1+ss.length * 1300≤900000→a.2.length+ss.length * 1300≤900000 →
  InU U (zoE l at' exit ss a)∧(zoE l at' exit ss a).1≤a.1+ss.length * 1300∧(zoE l at' exit ss a).2.length≤a.2.length+ss.length * 1300
 | [],a,_,h,_,_=>⟨h,by show a.1≤_;simp,by show a.2.length≤_;simp⟩
 |
  s::ss,a,hs,h,h1,h2=>by
  rw[Wj] at h1 h2
  have g1:a.1+(ss.length:Int) * 1300≤898700:=by push_cast at h1;rw[Int.add_mul] at h1;omega
  have g2:a.2.length+ss.length * 1300≤898700:=by have e:(ss.length+1) * 1300=ss.length * 1300+1300:=WH _ _;rw[e,←Nat.add_assoc] at h2;exact Nat.le_of_add_le_add_right (b:=1300) h2
  have g1':a.1+(ss.length:Int) * 1300≤900000:=Int.le_trans g1 (by decide);have g2':a.2.length+ss.length * 1300≤900000:=Wd g2 (by decide);obtain⟨u1,u2,u3,u4⟩:=hs s (by simp);obtain⟨i1,i2,i3⟩:=zxB hn (ss:=ss) (a:=a) (fun x hx=>hs x (by simp[hx])) h g1' g2';have e:=zEh (l:=l) (at':=at') (exit:=exit) (s:=s) i1.ok u3 (by omega) (by omega);show InU U (befT l at' exit s (zoE l at' exit ss a))∧(befT l at' exit s (zoE l at' exit ss a)).1≤_∧(befT l at' exit s (zoE l at' exit ss a)).2.length≤_;refine⟨⟨e.1,fun x hx=>?_⟩,by rw[Wj];omega,by rw[Wj];omega⟩
  rcases(zxq x).1 hx with ⟨hx,_⟩|hx|hx
  · exact i1.sub x hx
  · exact u1 x hx
  · exact u2 x hx
structure LivS(U:List Int)(g:G)(l:List Sgn)(at':List Int)(ex:Bool)(S:Nat→MS):Prop where
 inU:∀b,b < g.blocks.length→InU U (S b)
 up:∀y,0≤y→upB g.blocks.length (znx g l at' ex y) (zgR g.blocks.length S y)
 low:∀y,0≤y→leB (zgR g.blocks.length S y) (zmQ g.blocks.length (znx g l at' ex y))
def muS(n m:Nat)(S:Nat→MS):Nat:=((Wa n).map fun b=>m - (S b).2.length).sum
theorem zBx:∀{n:Nat}{f f':Nat→Nat}{k:Nat},k < n→(∀i,i≠k→f' i=f i)→f' k < f k→((Wa n).map f').sum < ((Wa n).map f).sum
 | 0,f,f',k,h,_,_=>by omega
 |
  n+1,f,f',k,h,h1,h2=>by
  rw[List.range_succ,WN,WN,List.sum_append,List.sum_append];simp only[Wg,Ws,List.sum_cons,List.sum_nil]
  by_cases hk:k=n
  ·
   subst hk
   have:(Wa k).map f'=(Wa k).map f:=Wt fun i hi=>h1 i (by have:=Wy.1 hi;omega)
   rw[this];omega
  · have:=zBx (n:=n) (f:=f) (f':=f') (k:=k) (by omega) h1 h2;have:=h1 n (fun e=>hk e.symm);omega
theorem zAC(U:List Int)(g:G)(l:List Sgn)(at':List Int)(ex:Bool):LivS U g l at' ex (fun _=>(0,[])):=by
 have hz:∀y i,(zgR g.blocks.length (fun _=>((0:Int),([]:List (Int × Int)))) y).getD i false=false:=fun y i=>by
  by_cases hi:i < g.blocks.length
  · rw[zjR hi];simp[MS.keys]
  · simp[Wi,zgR,hi]
 exact⟨fun b _=>⟨zti,fun x hx=>by cases hx⟩,fun y _=>⟨zu3,fun b _ h=>by rw[hz] at h;cases h⟩,fun y _ i h=>by rw[hz] at h;cases h⟩
theorem zCR{U:List Int}{g:G}{l:List Sgn}{at':List Int}{ex:Bool}{S:Nat→MS}(h:LivS U g l at' ex S){k:Nat}(hk:k < g.blocks.length){a:MS}(ha:InU U a)(hbit:∀y,0≤y→decide (y∈a.keys)=znx g l at' ex y (zgR g.blocks.length S y) k)(hpos:∀x∈U,0≤x):
  (a.2.length=(S k).2.length→∀y,0≤y→znx g l at' ex y (zgR g.blocks.length S y) k=(zgR g.blocks.length S y).getD k false) ∧
  (a.2.length≠(S k).2.length→LivS U g l at' ex (updF S k a)∧muS g.blocks.length U.length (updF S k a) < muS g.blocks.length U.length S):=by
 have hsub:∀y∈(S k).keys,y∈a.keys:=fun y hy=>by have hy0:=hpos y ((h.inU k hk).sub y hy);have:=(h.up y hy0).2 k hk (by rw[zjR hk];exact decide_eq_true hy);rw[←hbit y hy0] at this;exact of_decide_eq_true this
 have hle:(S k).2.length≤a.2.length:=by
  have:=List.Nodup.length_le_of_subset (h.inU k hk).ok.keys hsub
  simpa [MS.keys] using this
 constructor
 ·
  intro he y hy;rw[←hbit y hy,zjR hk];refine decide_eq_decide.2 ⟨fun hy2=>?_,hsub y⟩
  refine Classical.byContradiction fun hn=>?_
  have:=List.Nodup.length_le_of_subset (Wu.2 ⟨hn,(h.inU k hk).ok.keys⟩) (show ∀x∈y::(S k).keys,x∈a.keys from fun x hx=>by
   rcases Wc.1 hx with rfl|hx
   · exact hy2
   · exact hsub x hx)
  simp only[MS.keys,Wj,WA] at this;omega
 ·
  intro hne
  have hup:∀y,0≤y→zgR g.blocks.length (updF S k a) y=zmB (znx g l at' ex y) (zgR g.blocks.length S y) k:=fun y hy=>by rw[zzk hk,hbit y hy];rfl
  refine⟨⟨fun b hb=>?_,fun y hy=>?_,fun y hy=>?_⟩,?_⟩
  ·
   unfold updF;split
   · exact ha
   · exact h.inU b hb
  · rw[hup y hy];exact zs1 (zme _ _ _ _ _ _) (h.up y hy) hk
  · rw[hup y hy];refine zva (zme _ _ _ _ _ _) (h.up y hy) hk (fun b hb hf=>?_) (h.low y hy);rw[←(zuU (zme g l at' ex y g.blocks.length)).2 b hb];exact hf
  · refine zBx hk (fun i hi=>by simp only[updF,if_neg hi]) ?_;have:=ha.len;simp only[updF,if_true];omega
theorem zCJ{U:List Int}{g:G}{l:List Sgn}{at':List Int}{ex:Bool}{S:Nat→MS}(h:LivS U g l at' ex S)(hfix:∀k,k < g.blocks.length→∀y,0≤y→znx g l at' ex y (zgR g.blocks.length S y) k=(zgR g.blocks.length S y).getD k false):
  ∀y,0≤y→∀b,b < g.blocks.length→decide (y∈(S b).keys)=(zmQ g.blocks.length (znx g l at' ex y)).getD b false:=fun y hy b hb=>by
 rw[←zze (zme g l at' ex y g.blocks.length) zu3 (fun k hk=>hfix k hk y hy) (h.low y hy),zjR hb]
def mpsI(F n i:Nat):List (List AV):=(Wa n).map fun j=>if j < i then [.mp F (j+1)] else [.nilmp]
def zon(i:Nat):Nat→List MC:=fun j=>if j < i then setM 0 [] else []
def famI(n i:Nat):AObj:=.fam 3 (fi cm n (zon i) (fun _=>0))
theorem zCd{F n i:Nat}:(mpsI F n i).length=n:=by simp[mpsI]
theorem zzs{F n:Nat}:mpsI F n n=mps F n:=by
 unfold mpsI mps
 refine Wt fun j hj=>?_
 rw[if_pos (Wy.1 hj)]
theorem zy3{F n:Nat}:WS n [AV.nilmp]=mpsI F n 0:=by
 apply Wac
 · simp[mpsI]
 · intro k h1 h2;simp[mpsI]
theorem zAD{n:Nat}:famI n n=famS n (fun _=>(0,[])):=by
 unfold famI famS fi
 congr 1
 refine Wt fun j hj=>?_
 unfold zon;rw[if_pos (Wy.1 hj)]
theorem beqN{a b:Nat}(h:a≠b):Nat.beq a b=false:=by
 cases hx:Nat.beq a b with
 | false=>rfl
 | true=>exact absurd (Nat.eq_of_beq_eq_true hx) h
theorem zxs{t:Tab}{F i k a:Nat}(hF:t.at F=some (F,0)):fsig t [(F,i+1,a)] F (k+1)=if k=i then some (a,0,0) else some (F,k+1,0):=by
 unfold fsig;simp only[fat]
 by_cases h:k=i
 · subst h;rw[if_pos rfl,Nat.beq_refl,Nat.beq_refl];rfl
 · rw[if_neg h,beqN (show i+1≠k+1 by omega),Bool.and_false];simp only[cond_false];unfold Tab.sig;rw[hF]
theorem zza{H HH:AH}{σ:Nat→Nat→Option (Nat × Nat × Nat)}{D:Nat→Nat→Prop}{F n i a:Nat}(h1:∀k,σ F (k+1)=if k=i then some (a,0,0) else some (F,k+1,0)):
  RowV H HH σ D ((mpsI F n i).set i [.mp a 0]) (mpsI F n (i+1)):=by
 refine⟨by simp[mpsI],fun j c2 hj=>?_⟩;unfold mpsI at hj ⊢;simp only[WP,WQ] at hj;obtain⟨k,hk,rfl⟩:=hj;obtain⟨hkl,hkk⟩:=WU.1 hk;simp only[Wad] at hkl;rw[WB] at hkk;subst hkk
 by_cases hji:j=i
 ·
  subst hji;rw[if_pos (WJ j)];refine⟨[.mp a 0],by simp[hkl],rfl,fun z x y h3 h4=>?_⟩
  cases z with
  | succ z=>cases h3
  |
   zero =>
   cases h3;cases h4;exact .mp _ _ _ _ (by rw[h1,if_pos rfl])
 ·
  by_cases hlt:j < i
  ·
   rw[if_pos (by omega)];refine⟨[.mp F (j+1)],?_,rfl,fun z x y h3 h4=>?_⟩
   · rw[WC (fun e=>hji e.symm)];simp[hkl,hlt]
   ·
    cases z with
    | succ z=>cases h3
    |
     zero =>
     cases h3;cases h4;exact .mp _ _ _ _ (by rw[h1,if_neg hji])
  ·
   rw[if_neg (by omega)];refine⟨[.nilmp],?_,rfl,fun z x y h3 h4=>?_⟩
   · rw[WC (fun e=>hji e.symm)];simp[hkl,hlt]
   ·
    cases z with
    | succ z=>cases h3
    |
     zero =>
     cases h3;cases h4;exact .nilmp _
theorem zzw{H:AH}{F n i k:Nat}(h:H.look F=some (famI n i))(hk:k < n):H.get F (k+1)=some (.row 3 ((zon i k).map cm) 0):=by unfold AH.get;rw[h];simp only[WI,famI,AObj.part,zm9 hk,We]
theorem zC0 {H HH:AH} {σ:Nat→Nat→Option (Nat × Nat × Nat)} {F n i a:Nat} (h1:∀k,σ F (k+1)=if k=i then some (a,0,0) else some (F,k+1,0))
  (hF:H.look F=some (famI n i)) (ha:H.get a 0=some (.row 3 [[.int .i64 0,.undef,.undef]] 0)) (k:Nat) (p:List (List AV) × Nat) (hp:(fi cm n (zon (i+1)) (fun _=>0))[k]? = some p) :
  match σ F (k+1) with
   | some (r,q,d)=>∃els,H.get r q=some (.row 3 els (p.2+d))∧RowV H HH σ noQ els p.1
   | none=>p=([],0):=by
 rw[zqN] at hp;split at hp
 case isFalse=>cases hp
 rename_i hk;cases hp;rw[h1]
 by_cases hki:k=i
 · subst hki;rw[if_pos rfl];refine⟨_,ha,?_⟩;have:zon (k+1) k=setM 0 []:=if_pos (WJ k);rw[this];exact RowV.of_flat (by simp only[zh4,zju,and_true];rfl)
 ·
  rw[if_neg hki];refine⟨_,zzw hF hk,?_⟩
  have:zon (i+1) k=zon i k:=by
   unfold zon
   by_cases hlt:k < i
   · rw[if_pos hlt,if_pos (by omega)]
   · rw[if_neg hlt,if_neg (by omega)]
  rw[this];exact RowV.of_flat (zD zhj)
theorem zzD {H HH:AH} {σ:Nat→Nat→Option (Nat × Nat × Nat)} {F n i a:Nat} {S:Nat→MS} {b:MS} (h1:∀k,σ F (k+1)=if k=i then some (a,0,0) else some (F,k+1,0))
  (hF:H.look F=some (famS n S)) (ha:H.get a 0=some (.row 3 ((setM b.1 b.2).map cm) 0)) (k:Nat) (p:List (List AV) × Nat) (hp:(fi cm n (fun j=>setM (updF S i b j).1 (updF S i b j).2) (fun _=>0))[k]? = some p) :
  match σ F (k+1) with
   | some (r,q,d)=>∃els,H.get r q=some (.row 3 els (p.2+d))∧RowV H HH σ noQ els p.1
   | none=>p=([],0):=by
 rw[zqN] at hp;split at hp
 case isFalse=>cases hp
 rename_i hk;cases hp;rw[h1]
 by_cases hki:k=i
 · subst hki;rw[if_pos rfl];refine⟨_,ha,?_⟩;simp only[updF,if_true];exact RowV.of_flat (zD zhj)
 · rw[if_neg hki];refine⟨_,?_,RowV.of_flat (zD zhj)⟩;simp only[updF,if_neg hki];unfold AH.get;rw[hF];simp only[WI,famS,AObj.part,zm9 hk,We]
theorem zxZ{H HH:AH}{σ:Nat→Nat→Option (Nat × Nat × Nat)}{D:Nat→Nat→Prop}{F n i a:Nat}(h1:∀k,σ F (k+1)=if k=i then some (a,0,0) else some (F,k+1,0)):
  RowV H HH σ D ((mps F n).set i [.mp a 0]) (mps F n):=by
 refine⟨by simp[mps],fun j c2 hj=>?_⟩;unfold mps at hj ⊢;simp only[WP,WQ] at hj;obtain⟨k,hk,rfl⟩:=hj;obtain⟨hkl,hkk⟩:=WU.1 hk;simp only[Wad] at hkl;rw[WB] at hkk;subst hkk
 by_cases hji:j=i
 ·
  subst hji;refine⟨[.mp a 0],by simp[hkl],rfl,fun z x y h3 h4=>?_⟩
  cases z with
  | succ z=>cases h3
  |
   zero =>
   cases h3;cases h4;exact .mp _ _ _ _ (by rw[h1,if_pos rfl])
 ·
  refine⟨[.mp F (j+1)],?_,rfl,fun z x y h3 h4=>?_⟩
  · rw[WC (fun e=>hji e.symm)];simp[hkl]
  ·
   cases z with
   | succ z=>cases h3
   |
    zero =>
    cases h3;cases h4;exact .mp _ _ _ _ (by rw[h1,if_neg hji])
theorem zBa{H HH:AH}{σ:Nat→Nat→Option (Nat × Nat × Nat)}{D:Nat→Nat→Prop}{F n:Nat}:RowV H HH σ D (WS n [.nilmp]) (mpsI F n 0):=by
 rw[←zy3];refine⟨rfl,fun i c2 hi=>⟨c2,hi,rfl,fun j x y h1 h2=>?_⟩⟩;obtain⟨_,rfl⟩:=WU.1 hi;rw[List.getElem_replicate] at h1 h2;rw[h1] at h2;cases h2
 cases j with
 | succ j=>cases h1
 | zero=>cases h1;exact .nilmp _
theorem zzI{n:Nat}(i:Nat)(p:List (List AV) × Nat)(hp:(fi cm n (zon 0) (fun _=>0))[i]? = some p):p=([],0):=by
 rw[zqN] at hp;split at hp
 · cases hp;rfl
 · cases hp
theorem renP{ρ:Nat→Nat}{F n g:Nat}:AObj.ren ρ (.row 1 (mps F n) g)=.row 1 (mps (ρ F) n) g:=by
 simp only[AObj.ren,mps,Wk]
 congr 1
 refine Wt fun i _=>?_
 simp[AV.ren]
theorem zFp{n k:Nat}{S:Nat→MS}{H:AH}{F:Nat}(h:H.look F=some (famS n S))(hk:k < n):H.get F (k+1)=some (.row 3 ((setM (S k).1 (S k).2).map cm) 0):=by unfold AH.get;rw[h];simp only[WI,famS,AObj.part,zm9 hk,We]
theorem zxD{r q:Nat}{c:Int}{ps:List (Int × Int)}{H:AH}{nx:Nat}(h:H.get r q=some (.row 3 ((setM c ps).map cm) 0)):xopR .mlen [.mp r q] H nx=⟨ps.length≤big,True,.int .i64 ps.length,H,nx⟩:=by show zpA (.mp r q) H nx=_;unfold zpA;simp only;rw[h,ze];simp[enL]
theorem znY(ss:List St)(hs:ss.length≤1000000):zz Tryz.prog zaY [encL 8 St.cells ss] (·=.fn (.func zah) (zBe ss)):=by
 refine fn_x ze8 rfl ?_;unfold zcg;(refine Gw1 @zck.eq_1 ?_;intros);refine⟨_,.fn _ _ _ _ rfl fun i a b h1 h2=>?_,rfl⟩
 cases i with
 | zero=>cases h1;cases h2;exact .iptr _ _ _
 | succ i=>cases h1
def lvH(n:Nat)(S:Nat→MS)(c:Int)(es:List TE):AH:=[(0,.row 3 (tabM c es) 0),(1,.row 1 [[.mp 0 0]] 0),(2,.row 1 (mps 3 n) 0),(3,famS n S)]
def lvK(ad:Int)(bl:List Bl)(exit:List Int)(n:Nat)(ch:Bool):Kn:=[(3,encP 2 [.int .u32 ad,encL 2 Bl.cells bl]),(4,.ptr 1 0 0 0 0),(5,.iptr 1 fun j=>[za exit].getD j .undef),(7,.own 2 0 0 0 n),(9,.bool ch)]
abbrev T4:Tab:=[(0,0,0),(1,1,0),(2,2,0),(3,3,0)]
theorem ztg{H HH:AH}{σ:Nat→Nat→Option (Nat × Nat × Nat)}{D:Nat→Nat→Prop}(h:σ 0 0=some (0,0,0)):RowV H HH σ D [[.mp 0 0]] [[.mp 0 0]]:=by
 refine⟨rfl,fun i c2 hi=>⟨c2,hi,rfl,fun j x y h1 h2=>?_⟩⟩;rw[h1] at h2;cases h2
 cases i with
 | succ i=>cases hi
 |
  zero =>
  cases hi
  cases j with
  | succ j=>cases h1
  | zero=>cases h1;exact .mp _ _ _ _ h
theorem zyK {K K2:Kn} {H:AH} {nx n k:Nat} {c:Int} {es:List TE} {S:Nat→MS} {b:MS} (h0:H.get 0 0=some (.row 3 (tabM c es) 0)) (h1:H.get 1 0=some (.row 1 [[.mp 0 0]] 0)) (h2:H.get 2 0=some (.row 1 ((mps 3 n).set k [.mp 4 0]) 0))
  (h3:H.look 3=some (famS n S)) (h4:H.get 4 0=some (.row 3 ((setM b.1 b.2).map cm) 0))
  (hK:zt8 H (lvH n (updF S k b) c es) (fsig T4 [(3,k+1,4)]) K2 K):Ent 1 K H nx K2 (lvH n (updF S k b) c es) 4 :=
 Ent.foldB T4 [(3,k+1,4)] rfl rfl rfl rfl rfl ⟨rfl,⟨_,h0,zb⟩,rfl,⟨_,h1,ztg rfl⟩,rfl,⟨_,h2,zxZ fun _=>zxs rfl⟩,rfl,fun i p hp=>zzD (fun _=>zxs rfl) h3 h4 i p hp,trivial⟩ hK
def lvI(n i:Nat)(c:Int)(es:List TE):AH:=[(0,.row 3 (tabM c es) 0),(1,.row 1 [[.mp 0 0]] 0),(2,.row 1 (mpsI 3 n i) 0),(3,famI n i)]
theorem zB3{n:Nat}{c:Int}{es:List TE}:lvI n n c es=lvH n (fun _=>(0,[])) c es:=by unfold lvI lvH;rw[zzs,zAD]
theorem zAh {K K2:Kn} {H:AH} {nx n i:Nat} {c:Int} {es:List TE} (h0:H.get 0 0=some (.row 3 (tabM c es) 0)) (h1:H.get 1 0=some (.row 1 [[.mp 0 0]] 0)) (h2:H.get 2 0=some (.row 1 ((mpsI 3 n i).set i [.mp 4 0]) 0))
  (h3:H.look 3=some (famI n i)) (h4:H.get 4 0=some (.row 3 [[.int .i64 0,.undef,.undef]] 0))
  (hK:zt8 H (lvI n (i+1) c es) (fsig T4 [(3,i+1,4)]) K2 K):Ent 1 K H nx K2 (lvI n (i+1) c es) 4 :=
 Ent.foldB T4 [(3,i+1,4)] rfl rfl rfl rfl rfl ⟨rfl,⟨_,h0,zb⟩,rfl,⟨_,h1,ztg rfl⟩,rfl,⟨_,h2,zza fun _=>zxs rfl⟩,rfl,fun j p hp=>zC0 (fun _=>zxs rfl) h3 h4 j p hp,trivial⟩ hK
theorem zyp {K K2:Kn} {H:AH} {nx n:Nat} {c:Int} {es:List TE} (h0:H.get 0 0=some (.row 3 (tabM c es) 0)) (h1:H.get 1 0=some (.row 1 [[.mp 0 0]] 0)) (h2:H.get 3 0=some (.row 1 (WS n [.nilmp]) 0))
  (hK:zpd H (lvI n 0 c es) [(0,0,0),(1,1,0),(2,3,0)] [] K2 K):Ent 1 K H nx K2 (lvI n 0 c es) 4 :=
 Ent.tabB [(0,0,0),(1,1,0),(2,3,0)] [] rfl rfl rfl ⟨rfl,⟨_,h0,zb⟩,rfl,⟨_,h1,ztg rfl⟩,rfl,⟨_,h2,zBa⟩,rfl,zzI,trivial⟩ hK
theorem zFf{g:G}{k:Nat}{S:Nat→MS}{a:MS}(hk:k < g.blocks.length)(hE:∀t∈edgB g k,t < g.blocks.length){y:Int}(ha:y∈a.keys↔outY S (edgB g k) y):decide (y∈a.keys)=outV g (zgR g.blocks.length S y) k:=by
 unfold outV;rw[Bool.eq_iff_iff,decide_eq_true_iff,ha,WO];unfold outY;constructor
 · rintro⟨t,h1,h2⟩;exact⟨t,h1,by rw[zjR (hE t h1)];exact decide_eq_true h2⟩
 · rintro⟨t,h1,h2⟩;rw[zjR (hE t h1)] at h2;exact⟨t,h1,of_decide_eq_true h2⟩
structure SizC(U:List Int)(g:G)(l:List Sgn)(at' exit:List Int)(n:Nat):Prop extends UnivC U g l at' exit n where
 ok:OkG g
 blk:g.blocks.length≤1000
 room:∀k,k < g.blocks.length→(edgB g k).length * U.length+(blkG g k).stmts.length * 1300≤900000
 edg:∀k,k < g.blocks.length→(edgB g k).length≤1000
 sts:∀k,k < g.blocks.length→(blkG g k).stmts.length≤1000
 siz:∀b∈g.blocks,∀s∈b.stmts,z7 s.e≤300∧s.cases.length≤100000000
 exl:exit.length≤n
 n12:12≤n
 arg:∀a,(zbc l at' a).args.length≤9223372036854775807
theorem Qt{p:Prop}(h:p:=by(try simp only[evWB,Nat.reduceBEq,Nat.reduceAdd,Nat.reduceSub,Nat.reduceLeDiff,Nat.reduceLT,implies_true,ze,za,famS])<;>(repeat' with_reducible apply And.intro)<;>first | (first|exact zb|exact zg;done)|exact fin8):p:=h
theorem Qy{A0 A1 p:Prop}(a0:A0)(a1:A1)(h:A0→A1→p:=by intro a0 a1;(try simp only[evWB,Nat.reduceBEq,Nat.reduceAdd,Nat.reduceSub,Nat.reduceLeDiff,Nat.reduceLT,implies_true,a0,a1])<;>(repeat' with_reducible apply And.intro)<;>first | (exact zb;done)|exact fin8):p:=h a0 a1
set_option maxHeartbeats 1000000 in
theorem lv_l5 (l:List Sgn) (at':List Int) (ex:Bool) (ad:Int) (bl:List Bl) (U:List Int) (m:Nat) (c:Int) (es:List TE) (ht:TabS l at' es) (hz:SizC U ⟨ad,bl⟩ l at' (zdO ex) m) (S0:Nat→MS) (h0:LivS U ⟨ad,bl⟩ l at' ex S0) {Q:QT}
  (hfin:∀(S:Nat→MS)(ch:Bool),LivS U ⟨ad,bl⟩ l at' ex S→(ch=true→muS bl.length U.length S < muS bl.length U.length S0)→(ch=false→S=S0∧∀j,j < bl.length→∀y,0≤y→znx ⟨ad,bl⟩ l at' ex y (zgR bl.length S y) j=(zgR bl.length S y).getD j false)→Q .normal (lvK ad bl (zdO ex) bl.length ch++[(10,.int .i64 (0 - 1)),(34,.bool false)]) (lvH bl.length S c es) 4)
  {K:Kn} {H:AH} {nx:Nat} (hent:Ent 1 K H nx (lvK ad bl (zdO ex) bl.length false++[(10,.int .i64 ((bl.length:Int) - 1))]) (lvH bl.length S0 c es) 4) :
  zno Tryz.prog 1 zfz (zd4 4 Q) K H nx:=by
 have hB:=hBig;have hn:=hz.blk;simp only at hn
 refine zd (fun s:Nat × (Nat→MS) × Bool=>(lvK ad bl (zdO ex) bl.length s.2.2++[(10,.int .i64 ((s.1:Int) - 1))],lvH bl.length s.2.1 c es)) 4
  (fun s=>s.1≤bl.length∧LivS U ⟨ad,bl⟩ l at' ex s.2.1∧(s.2.2=true→muS bl.length U.length s.2.1 < muS bl.length U.length S0)∧(s.2.2=false→s.2.1=S0∧∀j,s.1≤j→j < bl.length→∀y,0≤y→znx ⟨ad,bl⟩ l at' ex y (zgR bl.length S0 y) j=(zgR bl.length S0 y).getD j false)) (fun s=>s.1) (bl.length,S0,false)
  ⟨Wh _,h0,(fun h=>by cases h),fun _=>⟨rfl,fun j h1 h2=>absurd h1 (Nat.not_le.2 h2)⟩⟩ hent ?_
 rintro⟨k,S,ch⟩ ⟨hk,hS,hc1,hc2⟩ wf;simp only at hk hS hc1 hc2;clear wf
 unfold zfz;conv in dcC _ _=>cbv
 simp only[lvK,lvH,Wo,Wp]
 cases k with
 |
  zero =>
  (refine Gw2 @dF @Int.natCast_zero ?_;intros)
  exact hfin S ch hS hc1 (fun h=>by
   obtain⟨e1,e2⟩:=hc2 h;subst e1
   exact⟨rfl,fun j hj=>e2 j (Wf _) hj⟩)
 |
  succ k =>
  have hkl:k < bl.length:=by omega
  have ek:((k+1:Nat):Int) - 1=k:=by omega
  have gb:(bl.map Bl.cells).getD k []=bl[k].cells:=zn (f:=Bl.cells) hkl;have hbk:blkG ⟨ad,bl⟩ k=bl[k]:=zkM (g:=⟨ad,bl⟩) hkl
  have hEI:zav bl[k].stmts=(edgB ⟨ad,bl⟩ k).map fun(t:Nat)=>(t:Int):=zwL hz.ok (g:=⟨ad,bl⟩) hkl
  have hElt:=zvO hz.ok (g:=⟨ad,bl⟩) hkl;have hroom:=hz.room k hkl;have hsts:=hz.sts k hkl;rw[hbk] at hroom hsts;have hmem:bl[k]∈bl:=Wr hkl;have hat:=zo3 bl[k] (fun s hs=>(hz.siz _ hmem s hs).2) bl.length S (edgB ⟨ad,bl⟩ k) hEI hElt (hz.edg k hkl) hn U.length (by omega) (fun i hi=>⟨(hS.inU i hi).ok,(hS.inU i hi).len⟩)
  have hout:=fun a (h:∀y,y∈a.keys↔outY S (edgB ⟨ad,bl⟩ k) y) (y:Int)=>zFf (g:=⟨ad,bl⟩) (k:=k) (S:=S) (a:=a) hkl hElt (h y)
  have htwo:[bl[k].cells.getD 0 .undef,bl[k].cells.getD 1 .undef]=bl[k].cells:=by cases bl[k];rfl
  (refine Gw6 ek @dT gb @ub @zP htwo ?_;intros)
  have hvm:RowV (lvH bl.length S c es) (atH bl.length S) (Tab.sig [(0,2,0),(1,3,0)]) (inD []) (mps 3 bl.length) (mps 1 bl.length):=zxm fun _=>rfl
  refine zx [(0,2,0),(1,3,0)] 2 _ (hat) rfl rfl (Gin8_2 @atH.eq_1 @lvH.eq_1) (Gin8_2 @atH.eq_1 @lvH.eq_1) ?_;rintro _ _ _ ⟨rfl,rfl,a0,rfl,ha0,hl1,hl2,hmm⟩;simp only[atH,Wo,Wp]
  have gs:(bl[k].cells.getD 1 .undef)=encL 8 St.cells bl[k].stmts:=by cases bl[k];rfl
  have hbw:=znY bl[k].stmts (by omega);have to6:Tab.to [(0,2,0),(1,3,0)] 4 2=6:=rfl;have to3:Tab.to [(0,2,0),(1,3,0)] 4 1=3:=rfl
  (repeat first|simp(disch:=try exact dis1) only[evD,Nat.reduceBEq,Nat.reduceAdd,Nat.reduceLeDiff,renM,renF,renP,AV.ren,to6,to3,AV.solid,AV.cells,gb,fldP,zP,gs]|with_reducible first|intro _|refine aJ ?_)
  refine zi (zf hbw rfl) ?_;(refine Gw0 ?_;intros);generalize hss:bl[k].stmts=ss at *
  have hA0:InU U a0:=⟨ha0,fun y hy=>by
   obtain⟨t,h1,h2⟩:=(hmm y).1 hy
   exact(hS.inU t (hElt t h1)).sub y h2⟩
  have hstm:∀s∈ss,(∀x∈ziV s,x∈U)∧(∀x∈zlv l at' (zdO ex) s,x∈U)∧(nub (zlv l at' (zdO ex) s)).length≤m∧z7 s.e≤300:=fun s hs=>by rw[←hss] at hs;exact⟨hz.uses _ hmem s hs,hz.more _ hmem s hs,hz.mlen _ hmem s hs,(hz.siz _ hmem s hs).1⟩
  have hb1:a0.1+(ss.length:Int) * 1300≤900000:=by omega
  have hb2:a0.2.length+ss.length * 1300≤900000:=by omega
  have hbd:∀s,InU U (zoE l at' (zdO ex) (ss.drop s) a0)∧(zoE l at' (zdO ex) (ss.drop s) a0).1≤900000∧(zoE l at' (zdO ex) (ss.drop s) a0).2.length≤900000:=fun s=>by
   have hd:(ss.drop s).length≤ss.length:=by rw[List.length_drop];exact Nat.sub_le _ _
   have hd2:(ss.drop s).length * 1300≤ss.length * 1300:=Wab _ hd
   have hd3:((ss.drop s).length:Int) * 1300≤(ss.length:Int) * 1300:=by omega
   obtain⟨e1,e2,e3⟩:=zxB hz.nlen (ss:=ss.drop s) (a:=a0) (fun x hx=>hstm x (List.mem_of_mem_drop hx)) hA0 (Int.le_trans (Int.add_le_add_left hd3 _) hb1) (Wd (Nat.add_le_add_left hd2 _) hb2);exact⟨e1,by omega,by omega⟩
  refine zuj rfl (fun c hc=>by rw[Wx.1 hc];exact .iptr _ _) (zmz ss (by omega)) (fun s x s' h=>by cases s with|zero=>cases h|succ s=>cases h;rfl) (lvK ad bl (zdO ex) bl.length ch++[(10,.int .i64 k),(11,.ptr 5 0 0 0 0)]) (fun a:MS=>lvH bl.length S c es++[(4,.row 3 ((setM a.1 a.2).map cm) 0),(5,.row 1 [[.mp 4 0]] 0)]) 6
   (fun a s=>s≤ss.length∧a=zoE l at' (zdO ex) (ss.drop s) a0) (fun a e=>False) a0 (fun a s h=>trivial) ⟨Wh _,by rw[List.drop_length];rfl⟩ ?_ ?_ ?_ (fun a e h=>h.elim)
  · simp only[lvK,lvH,Wo,Wp];exact(Ent.tabB [(0,0,0),(1,1,0),(2,2,0),(3,3,0),(4,6,0),(5,7,0)] [] rfl rfl rfl Qt Qt)
  ·
   rintro a s x s' ⟨h1,h2⟩ hx wf;clear wf
   cases s with
   | zero=>cases hx
   | succ s =>
   simp only[zBK,W7,Prod.mk.injEq] at hx;obtain⟨rfl,rfl⟩:=hx
   have hsl:s < ss.length:=by omega
   have hgs:ss.getD s noSt=ss[s]:=by simp[Wi,hsl]
   have hdr:ss.drop s=ss[s]::ss.drop (s+1):=WK hsl
   have hnew:zoE l at' (zdO ex) (ss.drop s) a0=befT l at' (zdO ex) ss[s] a:=by rw[hdr,h2];rfl
   obtain⟨q1,q2,q3⟩:=hbd (s+1);rw[←h2] at q1 q2 q3;have hst:=hstm ss[s] (Wr hsl);have hnl:=hz.nlen;have hbf:=znK a ss[s] l at' (zdO ex) c es ht q1.ok (by omega) m (by omega) hz.exl hz.n12 hz.arg (by omega) (by omega);rw[hgs];rw[←hnew] at hbf;have hflat:[ss[s].cells.getD 0 .undef,ss[s].cells.getD 1 .undef,ss[s].cells.getD 2 .undef,ss[s].cells.getD 3 .undef,ss[s].cells.getD 4 .undef,ss[s].cells.getD 5 .undef,ss[s].cells.getD 6 .undef,ss[s].cells.getD 7 .undef]=ss[s].cells:=St.eight _;simp only[zlP,lvK,lvH,Wo,Wp]
   unfold zix;conv in dcC _ _=>cbv
   have hc8:ss[s].cells.length=8:=rfl;(refine Gw2 @ub hflat ?_;intros)
   unfold ziS;conv in dcC _ _=>cbv
   (refine Gw3 @ub @zP hflat ?_;intros);refine zx [(0,4,0),(1,0,0)] 2 _ hbf rfl rfl (Qy @ze @bfH.eq_1) (Qy @ze @bfH.eq_1) ?_;rintro _ _ _ ⟨rfl,rfl,rfl⟩;simp only[bfH];(refine Gw2 @renM @zkd ?_;intros);exact⟨_,⟨by omega,rfl⟩,(Ent.tabB [(0,0,0),(1,1,0),(2,2,0),(3,3,0),(4,4,0),(5,5,0)] [] rfl rfl rfl Qt Qt)⟩
  ·
   rintro a s ⟨h1,h2⟩ hx
   have hs0:s=0:=by cases s with|zero=>rfl|succ s=>cases hx
   subst hs0;rw[WM] at h2;simp only[lvK,lvH,Wo,Wp];(refine Gw0 ?_;intros)
   unfold ziI;conv in dcC _ _=>cbv
   obtain⟨q1,q2,q3⟩:=hbd 0;rw[WM,←h2] at q1 q2 q3;have hal:=q1.len;have hUl:=hz.len;have hSl:=(hS.inU k hkl).len
   have m1:=fun(H:AH) (nx:Nat) (h:H.get 4 0=some (.row 3 ((setM a.1 a.2).map cm) 0))=>zxD (nx:=nx) h
   have m2:=fun(H:AH) (nx:Nat) (h:H.get 3 (k+1)=some (.row 3 ((setM (S k).1 (S k).2).map cm) 0))=>zxD (nx:=nx) h
   (refine Gw0 ?_;intros);rw[m1 _ _ rfl]
   (repeat first|simp(disch:=try exact dis1) only[evD,Nat.reduceBEq,Nat.reduceAdd,Nat.reduceLeDiff,zsL,ztw hkl,WR]|with_reducible first|intro _|refine aJ ?_)
   rw[m2 _ _ (zFp rfl hkl)]
   have hbit:∀y,0≤y→decide (y∈a.keys)=znx ⟨ad,bl⟩ l at' ex y (zgR bl.length S y) k:=fun y hy=>by rw[h2,zuq hy,hout a0 hmm y];unfold znx;rw[hbk,hss]
   obtain⟨hs1,hs2⟩:=zCR (g:=⟨ad,bl⟩) hS hkl q1 hbit hz.pos
   by_cases he:a.2.length=(S k).2.length
   ·
    (refine Qd ?_;intros)
    unfold zfn;conv in dcC _ _=>cbv
    (refine Gw0 ?_;intros);refine⟨(k,S,ch),⟨by omega,hS,hc1,fun h=>?_⟩,WJ k,?_⟩
    ·
     obtain⟨e1,e2⟩:=hc2 h;refine⟨e1,fun j hj1 hj2=>?_⟩
     rcases Nat.lt_or_ge k j with hkj|hkj
     · exact e2 j hkj hj2
     ·
      obtain rfl:j=k:=by simp only at hj1;omega
      rw[←e1];exact hs1 he
    · simp only[lvK,lvH,Wo,Wp];exact(Ent.tabB [(0,0,0),(1,1,0),(2,2,0),(3,3,0)] [] rfl rfl rfl Qt Qt)
   ·
    obtain⟨hs3,hs4⟩:=hs2 he
    (repeat first|simp(disch:=try exact dis1) only[evD,Nat.reduceBEq,Nat.reduceAdd,Nat.reduceLeDiff,dT,zsL,ztw hkl,WR]|with_reducible first|intro _|refine aJ ?_)
    unfold zfn;conv in dcC _ _=>cbv
    (refine Gw0 ?_;intros);refine⟨(k,updF S k a,true),⟨by omega,hs3,fun _=>?_,fun h=>by cases h⟩,WJ k,?_⟩
    ·
     simp only at hs4 ⊢
     cases ch with
     | true=>exact Nat.lt_trans hs4 (hc1 rfl)
     | false=>obtain⟨e1,_⟩:=hc2 rfl;rw[←e1];exact hs4
    · exact zyK rfl rfl rfl rfl rfl ⟨zai rfl,.ptr _ _ _ _ _ _ _ _ _ rfl rfl,.iptr _ _ _,.own _ _ _ 0 _ _ _ _ _ rfl rfl,.bool _ _,.int _ _ _,trivial⟩
end Go.Ab
