/-
  Part 16 of the proof: how the calls of this program run, over values instead of memory, and what each function computes.
-/
import Derived.KernelRfl
import Derived.Test.YtihlaappclhhaaaGreatKo
set_option maxRecDepth 100000
set_option cbv.warning false
set_option cbv.maxSteps 100000000
set_option linter.unusedVariables false
set_option linter.unusedSimpArgs false
set_option linter.unnecessarySimpa false
set_option linter.unusedSectionVars false
open And renaming intro→Wa
open List renaming range→Wc,getElem_mem→Wf,replicate→Wg,take_length→Wh,map_cons→Wi,length_append→Wj,all_eq_true→Wk,length_map→Wn,getD→Wo,map_append→Wp,map_nil→Wq,mem_range→Wr,mem_append→Ws,take_succ_eq_append_getElem→Wt,length_take→Wu,mem_flatMap→Wv,mem_map→Ww,filter_congr→Wx,length_cons→Wy,mem_filter→Wz,all_append→WA,sum_append→WE,length_nil→WF,length_filter_le→WG,filter_cons→WH,ext_getElem→WI,length_singleton→WJ,eq_of_mem_replicate→WL,drop_of_length_le→WM,drop_eq_getElem_cons→WN,map_congr_left→WP,mem_iff_getElem→WQ,getElem_take→WR,getElem_map→WS
open Nat renaming le_trans→Wd,zero_le→We,le_refl→Wm,lt_succ_self→WO
open Bool renaming and_eq_true→Wl,not_false→WB,and_true→WC,eq_iff_iff→WD,eq_false_iff→WU
open Int renaming natCast_nonneg→WK,toNat_natCast→WV
namespace Go.Ab
open Go.RowKit Go.Proofs
theorem QP{A0 A1 A2 p:Prop}(a0:A0)(a1:A1)(a2:A2)(h:A0→A1→A2→p:=by intro a0 a1 a2;(try simp only[evWB,Nat.reduceBEq,Nat.reduceAdd,Nat.reduceSub,Nat.reduceLeDiff,Nat.reduceLT,implies_true,a0,a1,a2])<;>(repeat' with_reducible apply And.intro)<;>first | (first|exact zg;done)|exact fin8):p:=h a0 a1 a2
theorem znB(n b:Nat)(hb:b < n)(S:Nat→MS)(sk:List Int):zU Tryz.prog zX [.mp 0 (b+1),za sk] [(0,famS n S)] 1
  (fun v H nx=>v=za (srtL (S b) sk)∧H=[(0,famS n S)]∧nx=1):=by
 refine zR (fn_x zf6 rfl ?_)
 unfold zd0;conv in dcC _ _=>cbv
 have hB:=hBig
 have hcon:=fun x=>zaq sk x
 (refine Gw0 ?_;intros);refine zd (fun s:Nat × Nat=>([(0,.mp 0 (b+1)),(1,za sk),(5,.own 1 0 s.2 0 (outN (S b) sk s.1).length),(7,.int .i64 s.1)],[(0,famS n S),(1,.row 1 ((outN (S b) sk s.1).map fun n=>[.int .i64 n]) s.2)])) 2 (fun s=>s.1≤12) (fun s=>12 - s.1) (0,0) (We _) (by rw[show outN (S b) sk (0,0).1=[] from rfl];exact(Ent.tabB [(0,0,0),(1,2,0)] [] rfl rfl rfl (QP @uf @ze @ua) (QP @uf @ze @ua))) ?_;rintro⟨j,γ⟩ hj wf;simp only at hj;clear wf
 unfold zcP;conv in dcC _ _=>cbv
 by_cases hj12:j < 12
 case neg =>
  obtain rfl:j=12:=by omega
  have hol:=zmm (a:=S b) (sk:=sk) (j:=12);(refine Qd ?_;intros)
  unfold zcR;conv in dcC _ _=>cbv
  generalize hO:outN (S b) sk 12=O at hol ⊢;(refine Gw0 ?_;intros);refine zx [(0,1,0)] 1 _ (zct γ O (by omega)) rfl rfl fin8 fin8 ?_;rintro _ _ _ ⟨rfl,rfl,rfl⟩
  (repeat first|simp(disch:=try exact dis1) only[evD,Nat.reduceBEq,Nat.reduceAdd,Nat.reduceLeDiff,zqO,AV.ren,show Tab.to [(0,1,0)] 2 0=1 from rfl,zee]|with_reducible intro _ | ((with_reducible apply Wa);omega))
  exact⟨za (srtL (S b) sk),[(0,famS n S)],1,by rw[show srtL (S b) sk=O from hO];exact(Ent.tabB [(0,0,0)] [1] rfl rfl rfl (QP @uf @ze @ua) (QP @uf @ze @ua)),rfl,rfl,rfl⟩
 have hsu:=zrb (a:=S b) (sk:=sk) (j:=j);have hol:=zmm (a:=S b) (sk:=sk) (j:=j);have hcj:=hcon j
 by_cases hm:(j:Int)∈(S b).2.map (·.1)
 ·
  obtain⟨i,hi,hie,hf⟩:=zgr hm
  cases hc:hasI sk j with
  |
   true =>
   rw[if_neg (by unfold srtP;rw[hc];simp)] at hsu;rw[hc] at hcj
   (repeat first|simp(disch:=try exact dis1) only[evD,Nat.reduceBEq,Nat.reduceAdd,Nat.reduceLeDiff,dT,famS,zm9 hb,ze,hf]|with_reducible first|intro _|refine aJ ?_)
   refine zi (zf hcj rfl) ?_;(refine Gw0 ?_;intros);refine⟨(j+1,γ),by omega,by simp only;omega,by rw[hsu];exact(Ent.tabB [(0,0,0),(1,1,0)] [] rfl rfl rfl (QP @uf @ze @ua) (QP @uf @ze @ua))⟩
  |
   false =>
   rw[if_pos (by unfold srtP;rw[hc];simp only[WB,WC];exact decide_eq_true hm)] at hsu;rw[hc] at hcj
   (repeat first|simp(disch:=try exact dis1) only[evD,Nat.reduceBEq,Nat.reduceAdd,Nat.reduceLeDiff,dT,famS,zm9 hb,ze,hf]|with_reducible first|intro _|refine aJ ?_)
   refine zi (zf hcj rfl) ?_;(refine Gw0 ?_;intros);refine⟨(j+1,γ+1),by omega,by simp only;omega,by rw[hsu,Wj,WJ,Wp];exact(Ent.tabB [(0,0,0),(1,1,0)] [] rfl rfl rfl (by((try simp only[evWB,Nat.reduceBEq,Nat.reduceAdd,Nat.reduceSub,Nat.reduceLeDiff,Nat.reduceLT,implies_true,famS,ze,za,Wi,Wq])<;>(repeat' with_reducible apply Wa)<;>first | (first|exact zg;done)|exact fin8)) (by((try simp only[evWB,Nat.reduceBEq,Nat.reduceAdd,Nat.reduceSub,Nat.reduceLeDiff,Nat.reduceLT,implies_true,famS,ze,za,Wi,Wq])<;>(repeat' with_reducible apply Wa)<;>first | (first|exact zg;done)|exact fin8)))⟩
 ·
  have hf:=zeH hm;rw[if_neg (by unfold srtP MS.keys;simp only[Wl,decide_eq_true_eq];exact fun h=>hm h.1)] at hsu
  (repeat first|simp(disch:=try exact dis1) only[evD,Nat.reduceBEq,Nat.reduceAdd,Nat.reduceLeDiff,dT,famS,zm9 hb,ze,hf]|with_reducible first|intro _|refine aJ ?_)
  refine⟨(j+1,γ),by omega,by simp only;omega,by rw[hsu];exact(Ent.tabB [(0,0,0),(1,1,0)] [] rfl rfl rfl (QP @uf @ze @ua) (QP @uf @ze @ua))⟩
mutual
theorem zBX:∀(e:Ex),zg6 e=true→∀y∈occX e,0≤y
 |
  .mk op n v w l,h,y,hy=>by
  rw[zg6,Wl] at h;rw[occX] at hy
  rcases Ws.1 hy with hy|hy
  ·
   by_cases h2:op=2
   · rw[if_pos h2,List.mem_singleton] at hy;have h3:=h.2;unfold zC at h3;have h4:=of_decide_eq_true h3;omega
   · rw[if_neg h2] at hy;cases hy
  · exact zqZ l h.1 y hy
theorem zqZ:∀(l:List Ex),zeO l=true→∀y∈zds l,0≤y
 | [],_,y,hy=>by rw[zds] at hy;cases hy
 |
  e::l,h,y,hy=>by
  rw[zeO,Wl] at h;rw[zds] at hy
  rcases Ws.1 hy with hy|hy
  · exact zBX e h.1 y hy
  · exact zqZ l h.2 y hy
end
theorem zuw:∀{l:List Ex},(∀e∈l,zg6 e=true)→zeO l=true
 | [],_=>by rw[zeO]
 | e::l,h=>by rw[zeO,Wl];exact⟨h e (by simp),zuw fun x hx=>h x (by simp[hx])⟩
theorem zBv{s:St}(h:OkS s):∀y∈ziV s,0≤y:=fun y hy=>by
 unfold ziV at hy
 rcases(znV _ _).1 hy with hy|hy
 · cases hy
 · exact zqZ _ (zuw h.form) y hy
theorem znl{α β:Type}{f:α→List β}{m:Nat}:∀{l:List α},(∀a∈l,(f a).length≤m)→(l.flatMap f).length≤l.length * m
 | [],_=>by simp
 |
  a::l,h=>by
  rw[List.flatMap_cons,Wj,Wy,Nat.succ_mul];have h1:=h a (by simp)
  have h2:=znl (l:=l) fun x hx=>h x (by simp[hx])
  omega
def allU(g:G):List Int:=(g.blocks.flatMap fun b=>b.stmts.flatMap ziV)++zdO true
theorem zxa{g:G}(hf:fewC g):(allU g).length≤24012:=by
 unfold allU
 have h1:(g.blocks.flatMap fun b=>b.stmts.flatMap ziV).length≤g.blocks.length * 3000:=znl fun b hb=>by refine Wd (znl (m:=300) fun s hs=>Wd (zrj s) (hf.size b hb s hs)) ?_;have:=hf.stmts b hb;omega
 have h2:=hf.blocks;rw[Wj,show (zdO true).length=12 from rfl];omega
theorem zun(ex:Bool):(zdO ex).length≤12:=by
 cases ex
 · exact We _
 · exact Wm _
theorem zAY(ex:Bool):∀x∈zdO ex,x∈zdO true:=fun x hx=>by
 cases ex
 · cases hx
 · exact hx
theorem zEM{g:G}(hf:fewC g)(hg:OkG g)(hs:∀b∈g.blocks,∀s∈b.stmts,OkS s)(l:List Sgn)(at':List Int)(ex:Bool)(ha:∀a,(zbc l at' a).args.length≤9223372036854775807):SizC (allU g) g l at' (zdO ex) 900 where
 uses b hb s hs x hx:=Ws.2 (.inl (Wv.2 ⟨b,hb,Wv.2 ⟨s,hs,hx⟩⟩))
 more b hb s hs x hx:=by
  refine Ws.2 (.inr ?_);unfold zlv at hx;split at hx
  · have h2:=(Wz.1 hx).2;unfold inG at h2;have h3:=of_decide_eq_true h2;exact(zuS h3.1).2 ⟨rfl,h3.2⟩
  ·
   split at hx
   · exact zAY ex x hx
   · cases hx
 pos x hx:=by
  rcases Ws.1 hx with h|h
  · obtain⟨b,hb,h1⟩:=Wv.1 h;obtain⟨s,h2,h3⟩:=Wv.1 h1;exact zBv (hs b hb s h2) x h3
  · unfold zdO at h;rw[if_pos rfl] at h;obtain⟨n,_,rfl⟩:=Ww.1 h;exact WK _
 len:=Wd (zxa hf) (by decide)
 mlen b hb s hs:=zBG (Wd (zun ex) (by decide)) (by decide)
 nlen:=by decide
 ok:=hg
 blk:=Wd hf.blocks (by decide)
 room k hk:=by
  have h1:=zsS hf hk
  have h2:(blkG g k).stmts.length≤10:=by rw[zkM hk];exact hf.stmts _ (Wf hk)
  have h3:=zxa hf;have h4:(edgB g k).length * (allU g).length≤8 * 24012:=Nat.mul_le_mul h1 h3;omega
 edg k hk:=Wd (zsS hf hk) (by decide)
 sts k hk:=by rw[zkM hk];exact Wd (hf.stmts _ (Wf hk)) (by decide)
 siz b hb s hs:=⟨hf.size b hb s hs,Wd (hf.cases b hb s hs) (by decide)⟩
 exl:=Wd (zun ex) (by decide)
 n12:=by decide
 arg:=ha
theorem zw5{v:Int}:hasI [] v=false:=rfl
theorem zEf{g:G}{l:List Sgn}{at':List Int}{U:List Int}{S:Nat→MS}(h:LiveR U g l at' false S)(hp:0 < g.blocks.length):srtL (S 0) []=(sigG g l at').args:=by
 unfold srtL
 show _=((Wc 12).filter (argP g l at')).map fun(v:Nat)=>(v:Int)
 congr 1
 refine Wx fun v _=>?_
 unfold srtP argP;rw[zw5,WB,WC];exact h.bit v (WK _) 0 hp
theorem res_of{g:G}{l:List Sgn}{at':List Int}:rsL g l at' (savG g l at')=(sigG g l at').res:=by
 unfold rsL
 show _=((Wc 12).filter (resP g l at')).map fun(v:Nat)=>(v:Int)
 congr 1
 refine Wx fun v _=>?_
 unfold resP
 congr 2
 by_cases hs:(v:Int)∈savG g l at'
 · rw[zkD hs,decide_eq_true hs]
 · rw[zkC hs,decide_eq_false hs]
theorem QR{A0 p:Prop}(a0:A0)(h:A0→p:=by intro a0;(try simp only[evWB,Nat.reduceBEq,Nat.reduceAdd,Nat.reduceSub,Nat.reduceLeDiff,Nat.reduceLT,implies_true,a0])<;>(repeat' with_reducible apply And.intro)<;>first | (first|exact zb|exact zg|exact RowV.of_flat zan;done)|exact fin8):p:=h a0
theorem QS{A0 A1 p:Prop}(a0:A0)(a1:A1)(h:A0→A1→p:=by intro a0 a1;(try simp only[evWB,Nat.reduceBEq,Nat.reduceAdd,Nat.reduceSub,Nat.reduceLeDiff,Nat.reduceLT,implies_true,a0,a1])<;>(repeat' with_reducible apply And.intro)<;>first | (first|exact zb|exact zg|exact RowV.of_flat zan;done)|exact fin8):p:=h a0 a1
theorem QU{A0 A1 A2 p:Prop}(a0:A0)(a1:A1)(a2:A2)(h:A0→A1→A2→p:=by intro a0 a1 a2;(try simp only[evWB,Nat.reduceBEq,Nat.reduceAdd,Nat.reduceSub,Nat.reduceLeDiff,Nat.reduceLT,implies_true,a0,a1,a2])<;>(repeat' with_reducible apply And.intro)<;>first | (first|exact zb|exact zg|exact RowV.of_flat zan;done)|exact fin8):p:=h a0 a1 a2
theorem zm7(g:G)(hf:fewC g)(hg:OkG g)(hs:∀b∈g.blocks,∀s∈b.stmts,OkS s)(hen:∀b∈g.blocks,zkc b.stmts=true)(l:List Sgn)(at':List Int)(c:Int)(es:List TE)(ht:TabS l at' es)(ha:∀a,(zbc l at' a).args.length≤9223372036854775807)(hr:∀a,(zbc l at' a).res.length≤9223372036854775807):
  zU Tryz.prog zfJ [.agg g.cells,.mp 0 0] [(0,.row 3 (tabM c es) 0)] 1
  (fun v H nx=>v=.agg (sigG g l at').cells∧H=[(0,.row 3 (tabM c es) 0)]∧nx=1):=by
 refine zR (fn_x zrz rfl ?_)
 unfold zm4;conv in dcC _ _=>cbv
 have hB:=hBig;have hsv:=zoA g hf hg hs hen l at' c es ht;have hlv:=zpI g l at' false (allU g) 900 c es ht (zEM hf hg hs l at' false ha);have hrs:=znq g hf hg l at' c es ht hr (savG g l at');have hpos:=hg.pos;have hbl8:=hf.blocks
 have har:=fun S (h:LiveR (allU g) g l at' false S)=>zEf h hpos
 rw[res_of] at hrs;have hsc:(sigG g l at').cells=[za (sigG g l at').args,za (sigG g l at').res,za (savG g l at')]:=rfl;rw[hsc];generalize (sigG g l at').args=A at har ⊢;generalize (sigG g l at').res=R at hrs ⊢;generalize savG g l at'=V at hsv hrs ⊢;generalize hn:g.blocks.length=n at hlv hpos hbl8;generalize LiveR (allU g) g l at' false=LR at hlv har;generalize hcl:g.cells=C at hsv hlv hrs ⊢;obtain⟨ad,bl⟩:=g;simp only[G.cells] at hcl;subst hcl;(refine Gw2 @ub @zP ?_;intros)
 (refine zx [(0,0,0)] 1 _ (hsv) rfl rfl (QR @ua) (QR @ua) ?_)
 rintro _ _ _ ⟨rfl,rfl,rfl⟩;(refine Gw4 @zkd @renE @ub @zP ?_;intros);have to4:Tab.to [(0,0,0)] 3 1=4:=rfl;have to5:Tab.to [(0,0,0)] 3 2=5:=rfl;have hmg:(mps 5 n).getD (Int.toNat 0) []=[.mp 5 1]:=ztw hpos
 (repeat' with_reducible apply Wa)
 all_goals (refine zx [(0,0,0)] 1 _ (hlv) rfl rfl (QS @ua @zdO.eq_1) (QS @ua @zdO.eq_1) ?_)
 all_goals (rintro _ _ _ ⟨S,rfl,rfl,rfl,hLR⟩;have hA:=har S hLR;have hso:=znB n 0 hpos S [];rw[hA] at hso;simp only[zDk])
 all_goals (repeat first|simp(disch:=try exact dis1) only[evD,Nat.reduceBEq,Nat.reduceAdd,Nat.reduceLeDiff,zkd,renP,renF,AV.ren,to4,to5,zsL,hmg,fldP,zP]|with_reducible first|intro _|refine aJ ?_)
 all_goals (repeat' with_reducible apply Wa)
 all_goals try omega
 all_goals (refine zx [(0,5,0)] 1 _ (hso) rfl rfl (QS @ua @uf) (QS @ua @uf) ?_)
 all_goals (rintro _ _ _ ⟨rfl,rfl,rfl⟩;(refine Gw4 @renF @renE @ub @zP ?_;intros;try with_reducible exact trivial))
 all_goals (repeat' with_reducible apply Wa)
 all_goals try omega
 all_goals (refine zx [(0,0,0)] 1 _ (hrs) rfl rfl (QS @ua @uf) (QS @ua @uf) ?_)
 all_goals (rintro _ _ _ ⟨rfl,rfl,rfl⟩;(refine Gw6 @zkd @renE @ub @zP @ua @zmW.eq_1 ?_;intros;try with_reducible exact trivial))
 all_goals exact⟨.agg [za A,za R,za V],[(0,.row 3 (tabM c es) 0)],1,(Ent.tabB [(0,0,0)] [] rfl rfl rfl (QU @ze @ua @uh) (QU @ze @ua @uh)),rfl,rfl,rfl⟩
def zoj(g:G):List Int:=za8 (zeF (tgB g.blocks))
theorem zBw{a:Int}{l:List Bl}:a∈tgB l↔∃b∈l,∃s∈b.stmts,s.op=5∧s.tgt=a:=by unfold tgB tgS;simp only[Wv,Ww,Wz,decide_eq_true_eq,and_assoc]
theorem zub{g:G}:zoj g=zhd [] (tgB g.blocks):=zpr _ _ (zkl (by simp[Asc])) fun x=>by rw[zjT];simp
theorem zo0{g:G}{a:Int}:a∈zoj g↔∃b∈g.blocks,∃s∈b.stmts,s.op=5∧s.tgt=a:=by rw[zub,zjT,←zBw];simp
theorem zwf{g:G}(hf:fewC g):(tgB g.blocks).length≤80:=by have h1:=zwx (l:=g.blocks) (n:=10) hf.stmts;have h2:=hf.blocks;omega
theorem zrV{g:G}(hf:fewC g):(zoj g).length≤80:=by
 have hn:(zoj g).Nodup:=by
  rw[zub]
  exact(zkl (a:=[]) (by simp[Asc])).imp fun h e=>by omega
 refine Wd (List.Nodup.length_le_of_subset hn fun x hx=>?_) (zwf hf);rw[zo0,←zBw] at hx;exact hx
theorem zsl{g:G}{at':List Int}:resG g at'=(zoj g).all fun a=>(idxA at' a).isSome:=by
 rw[WD,Wk];unfold resG;rw[Wk];constructor
 ·
  intro h a ha;obtain⟨b,hb,s,hs,h5,rfl⟩:=zo0.1 ha;have h1:=h b hb;unfold resB at h1;rw[Wk] at h1;have h2:=h1 s hs;unfold resS at h2;rw[decide_eq_true h5] at h2
  cases hi:idxA at' s.tgt with
  | none=>rw[hi] at h2;exact absurd h2 (by decide)
  | some k=>rfl
 ·
  intro h b hb;unfold resB;rw[Wk];intro s hs;unfold resS
  by_cases h5:s.op=5
  ·
   have h1:=h s.tgt (zo0.2 ⟨b,hb,s,hs,h5,rfl⟩)
   cases hi:idxA at' s.tgt with
   | none=>rw[hi] at h1;cases h1
   | some k=>simp
  · rw[decide_eq_false h5];rfl
theorem Qg{p q:Prop}(k:q)(h:Im q p:=by(repeat first|simp(disch:=try exact dis1) only[evD,Nat.reduceBEq,Nat.reduceAdd,Nat.reduceLeDiff,zkd,AV.ren,fldP,zP] | ((with_reducible apply Im.i);intro _) | ((with_reducible apply Im.a);omega));exact Im.r):p:=h k
theorem QV{p:Prop}(h:p:=by(try simp only[evWB,Nat.reduceBEq,Nat.reduceAdd,Nat.reduceSub,Nat.reduceLeDiff,Nat.reduceLT,implies_true])<;>(repeat' with_reducible apply And.intro)<;>first | (first|exact zb|exact zg|exact RowV.of_flat (zet _ _);done)|exact fin6):p:=h
theorem QW{A0 p:Prop}(a0:A0)(h:A0→p:=by intro a0;(try simp only[evWB,Nat.reduceBEq,Nat.reduceAdd,Nat.reduceSub,Nat.reduceLeDiff,Nat.reduceLT,implies_true,a0])<;>(repeat' with_reducible apply And.intro)<;>first | (first|exact zb|exact zg|exact RowV.of_flat (zet _ _);done)|exact fin6):p:=h a0
theorem zoT(g:G)(hf:fewC g)(l:List Sgn)(at':List Int)(hl:at'.length≤1000000)(hll:l.length≤1000000):zz Tryz.prog zho [.agg g.cells,encL 3 Sgn.cells l,encL 1 cW at'] (·=.int .i64 (errC g l.length at')):=by
 refine fn_x zov rfl ?_
 unfold zj5;conv in dcC _ _=>cbv
 have hB:=hBig;have hck:=zj3 g (zsh hf) (fun b hb s hs=>Wd (hf.cases b hb s hs) (by decide));have hca:=zkm g (Wd (zwf hf) (by decide)) (Wd hf.blocks (by decide)) (fun b hb=>Wd (hf.stmts b hb) (by decide));have hrg:=zsl (g:=g) (at':=at');have hclen:=zrV hf;unfold errC;rw[show za8 (zeF (tgB g.blocks))=zoj g from rfl] at hca;generalize zoj g=cl at hca hrg hclen;generalize resG g at'=rg at hrg ⊢;generalize zdU g=er at hck ⊢;generalize hcl:g.cells=C at hck hca ⊢;obtain⟨ad,bl⟩:=g;simp only[G.cells] at hcl;subst hcl
 by_cases hle:l.length=at'.length
 case neg =>rw[if_pos (by omega)];(refine Gw4 @dT @ub @zP @zc8.eq_1 ?_;intros);exact⟨_,.int _ _ _,rfl⟩
 rw[if_neg (by omega)];(refine Gw3 @dF @ub @zP ?_;intros);refine zi (zf hck rfl) ?_
 by_cases he:er=0
 case neg =>rw[if_pos he];(refine Gw2 @dT @zc8.eq_1 ?_;intros);exact⟨_,.int _ _ _,rfl⟩
 rw[if_neg (fun h=>h he)];(refine Qd ?_;intros);refine zx [] 0 _ (ze5 l at' hl hle) rfl rfl QV QV ?_;rintro _ _ _ ⟨rfl,rfl,c,es,rfl,ht⟩;(refine Qg ?_;intros);refine zi (zf hca rfl) ?_;(refine Gw0 ?_;intros);refine zd (fun i:Nat=>([(8,.mp 0 0),(27,encL 1 cW cl),(28,.int .i64 cl.length),(29,.int .i64 i)],[(0,.row 3 (tabM c es) 0)])) 1 (fun i=>i≤cl.length∧(cl.take i).all (fun a=>(idxA at' a).isSome)=true) (fun i=>cl.length - i) 0 ⟨We _,rfl⟩ (Ent.tab [(0,0,0)] [] rfl (QW @ua) (QW @ua)) ?_;rintro i ⟨hi,hall⟩ wf;clear wf
 unfold zhA;conv in dcC _ _=>cbv
 by_cases hil:i < cl.length
 case neg =>
  obtain rfl:i=cl.length:=by omega
  rw[Wh,←hrg] at hall;rw[if_pos hall];(refine Qd ?_;intros);unfold zhV;(refine Gw1 @zc8.eq_1 ?_;intros);exact⟨_,.int _ _ _,rfl⟩
 have gi:(cl.map cW).getD i []=[.int .u32 cl[i]]:=zn (f:=cW) hil;have hkn:=zz6 ht cl[i];have hmf:=zo5 (a:=cl[i]) (es:=es) (i:=0)
 have htk:(cl.take (i+1)).all (fun a=>(idxA at' a).isSome)=(idxA at' cl[i]).isSome:=by rw[Wt hil,WA,hall];simp
 have hmem:cl[i]∈cl:=Wf hil;generalize cl[i]=a at gi hkn hmf htk hmem
 have c0:∀l:List AV,(AV.agg l).cells=l:=fun _=>rfl
 have s0:∀l:List AV,(AV.agg l).solid=true:=fun _=>rfl
 have htab:tabM c es=[AV.int .i64 c,.undef,.undef]::es.map cT:=rfl
 cases hat:atT es a with
 |
  none =>
  rw[hat] at hkn hmf;simp only at hmf
  have hno:rg≠true:=fun h=>by rw[h] at hrg;have:=Wk.1 hrg.symm a hmem;rw[←hkn] at this;cases this
  rw[if_neg hno]
  (repeat first|simp(disch:=try exact dis1) only[evD,Nat.reduceBEq,Nat.reduceAdd,Nat.reduceLeDiff,dT,gi,tabM,hmf,c0,s0,Option.isSome_none,zc8]|with_reducible first|intro _|refine aJ ?_)
  exact⟨_,.int _ _ _,rfl⟩
 |
  some j =>
  rw[hat] at hkn hmf;simp only at hmf;rw[←hkn] at htk;generalize (es.getD j ⟨0,zbF,0⟩).sg=sg at hmf
  (repeat first|simp(disch:=try exact dis1) only[evD,Nat.reduceBEq,Nat.reduceAdd,Nat.reduceLeDiff,dT,gi,tabM,hmf,c0,s0,Sgn.cells,Option.isSome_some]|with_reducible first|intro _|refine aJ ?_)
  rw[←htab];exact⟨i+1,⟨hil,htk⟩,by omega,(Ent.tab [(0,0,0)] [] rfl (QW @ua) (QW @ua))⟩
theorem ztI{g:G}(h:zdU g=0):∀b∈g.blocks,zkc b.stmts=true:=fun b hb=>by
 have h0:=zqj h;unfold zur at h0;split at h0
 case isFalse=>cases h0
 rename_i h1;rw[Wl,Wk] at h1;have h2:=h1.2 b hb;unfold zjH at h2;rw[Wl,Wl] at h2;exact h2.2.1
theorem QX{p:Prop}(h:p:=by(try simp only[evWB,Nat.reduceBEq,Nat.reduceAdd,Nat.reduceSub,Nat.reduceLeDiff,Nat.reduceLT,implies_true])<;>(repeat' with_reducible apply And.intro)<;>first | (first|exact zb|exact zg|exact RowV.of_flat (zet _ _)|exact zai rfl;done)|exact fin6):p:=h
theorem zrL(g:G)(hf:fewC g)(l:List Sgn)(at':List Int)(hl:at'.length≤1000000)(hll:l.length≤1000000)(ha:∀a,(zbc l at' a).args.length≤9223372036854775807)(hr:∀a,(zbc l at' a).res.length≤9223372036854775807):
  zz Tryz.prog zk1 [.agg g.cells,encL 3 Sgn.cells l,encL 1 cW at'] (·=ofG g l at'):=by
 refine fn_x zrr rfl ?_
 unfold zm3 ofG;conv in dcC _ _=>cbv
 have hB:=hBig;have hck:=zoT g hf l at' hl hll
 have hof:=fun(h0:errC g l.length at'=0) c es ht=>zm7 g hf (zAI hf (znH h0).2.1).1 (zAI hf (znH h0).2.1).2 (ztI (znH h0).2.1) l at' c es ht ha hr
 have hle:=fun(h0:errC g l.length at'=0)=>(znH h0).1
 generalize errC g l.length at'=er at hck hof hle ⊢;generalize sigG g l at'=sg at hof ⊢;generalize hcl:g.cells=C at hck hof ⊢;obtain⟨ad,bl⟩:=g;simp only[G.cells] at hcl;subst hcl
 have c0:∀l:List AV,(AV.agg l).cells=l:=fun _=>rfl
 have s0:∀l:List AV,(AV.agg l).solid=true:=fun _=>rfl
 have c3:sg.cells.length=3:=rfl
 have retP:∀(H:AH)(x:AV)(y:Sgn)(n:Int),Frz H x (.agg y.cells)→∃a,Frz H (.tup [x,.int .i64 n]) a∧a=.tup [.agg y.cells,.int .i64 n]:=fun H x y n hx=>⟨.tup [.agg y.cells,.int .i64 n],.tup _ _ _ rfl (fun i a b h1 h2=>match i with
  | 0=>by cases h1;cases h2;exact hx
  | 1=>by cases h1;cases h2;exact .int _ _ _
  | i+2=>by cases h1),rfl⟩
 have hnil:∀H:AH,Frz H (.agg [.nilsl,.nilsl,.nilsl]) (.agg zbF.cells):=fun H=>.agg _ _ _ rfl (fun i a b h1 h2=>match i with
  | 0=>by cases h1;cases h2;exact .nil0 _ _ _
  | 1=>by cases h1;cases h2;exact .nil0 _ _ _
  | 2=>by cases h1;cases h2;exact .nil0 _ _ _
  | i+3=>by cases h1)
 (refine Gw2 @ub @zP ?_;intros);refine zi (zf hck rfl) ?_
 by_cases h0:er=0
 case neg =>rw[if_pos h0];(refine Gw2 @dT @zjD.eq_1 ?_;intros);exact retP _ _ zbF _ (hnil _)
 rw[if_neg (fun h=>h h0)]
 have hrs:∀ρ:Nat→Nat,AV.ren ρ (.agg sg.cells)=.agg sg.cells:=fun ρ=>by simp only[AV.ren,Sgn.cells,Wi,Wq,renE]
 have hof:=hof h0;have hnt:=ze5 l at' hl (hle h0);(refine Gw3 @dF @ub @zP ?_;intros)
 (repeat' with_reducible apply Wa)
 all_goals (refine zx [] 0 _ hnt rfl rfl QX QX ?_)
 all_goals (rintro _ _ _ ⟨rfl,rfl,c,es,rfl,ht⟩;(refine Qg ?_;intros))
 all_goals (refine zx [(0,1,0)] 1 _ (hof c es ht) rfl rfl QX QX ?_)
 all_goals (rintro _ _ _ ⟨rfl,rfl,rfl⟩;(refine Gw6 @zkd hrs c0 s0 c3 @zjD.eq_1 ?_;intros;try with_reducible exact trivial))
 all_goals exact retP _ _ _ _ (zai rfl)
@[cbv_opaque] def zjB:ACode:=dcC 0x9e110ad2100dd06021000000000003d91c9e1181112301e0e34016e813c0101001115c00c001101123012340a00900a0090dd21c10bd210922002133532701430400dd36bd2113 []
@[cbv_opaque] def zja:ACode:=dcC 0x3c2d73100d21003d06ae221 []
@[cbv_opaque] def zi9:ACode:=dcC 0x19096250000001130000cc86211819d8d140110b1030a00805d26130001d47db2815d072403298212203d1d24020061315307014302d3d361d2113 [zjB,zja]
@[cbv_opaque] def zgm:ACode:=dcC 0x27f11003f210006f0627f221000000000000000000000000000ce10c2d102138130ff0ef34021121ff1117f10344439c02124f2bdb0211025c1230211021123021234023c002900211cf2adb0211025c1130211021113021234023c0029002114f2adb0211025c1030211021103021234023c00290023c0022c00bf22200ae1c40df1381444392c21229da01c004c2208f251300004f40af4c28108f00c2403291c2122006f04f240200613753670143005f06f3604f2113 []
@[cbv_opaque] def zjy:ACode:=.seq (.seq (.region [(oM 100 11),(oM 101 6),(oN 102 (.call zq [(.t 100),(.t 101),(.c (.fn (.func zdM) []))]))] [6,10,61,62,63,100,101]) (.cond (.t 102) (.seq (.region [(oM 103 11),(oM 2 103),(oK 3 0)] [0,5,11,102,103]) (.ret)) (.skip))) (.region [(oM 104 11),(oM 6 104)] [2,3,11,102,104])
def zgu:ACode:=dcC 0x19096650000001503001f2313300ee310b21144430cf3ac015030ee241300be310a21228da080090be241355 [zgm,zjy]
@[cbv_opaque] def zjp:ACode:=.block 4 (.loop zgu)
def zlG:ACode:=dcC 0x190960500000015030ec2313300bc310621144430cf3ac015030bc24130011c002710521103141ac0150308c24130801c304ac0036c22700313145c10001860105c221303c21042117da0303c231330220000036c22213 [zi9,zjp]
def ziJ:List ARet:=[.tmp 2,.tmp 3]
theorem zqB:zO Tryz.prog zjG (qRo [])=some (zlG.strip,ziJ,105):=by kernel_rfl
@[cbv_opaque] def zfT:ACode:=dcC 0x17c224106c21009c06fc221080600a407102280021314cc1000186010cc221305c43105211dea0122ac2313007c3cc12814032942122027c24041315307014308c9c367c2113 []
@[cbv_opaque] def zgd:ACode:=dcC 0xed1103d21006d060210001d526201ed37a4c1110b103090bd241086008c150740002211314007d31ad210794c0110b1030907d24133004d39d12814032982122024d24041335327014305d6d364d2113 []
@[cbv_opaque] def zfP:ACode:=dcC 0x0ce23108e2100be0600f221086004008d687c000221131400fd0c410c012210794c03c0090ce2413009e3100c211029e1403137536701430aebe369e2113 []
@[cbv_opaque] def zfQ:ACode:=dcC 0x8006e4101e21004e0601f221 []
@[cbv_opaque] def zf2:ACode:=dcC 0x1909665ada20000015011eea01225e2413002e37e128140329a2122022e24041355347014303e4e362e2113 [zfP,zfQ]
@[cbv_opaque] def zf3:ACode:=.seq (.region [(oK 2 0)] [6,43,44,45]) (.ret)
@[cbv_opaque] def zgh:ACode:=dcC 0x1909645000d040000015010fd23133 [zf2,zf3]
@[cbv_opaque] def zfZ:ACode:=dcC 0x1909625000000150301d231339004c41062014c0d2213 [zgd,zgh]
def zhx:ACode:=dcC 0x19096050c2200000150304c23133082c022000221131401c25001560150301c2313321000022113 [zfT,zfZ]
def zba:List ARet:=[.tmp 2]
theorem zmr:zO Tryz.prog zfq (qRo [])=some (zhx.strip,zba,62):=by kernel_rfl
@[cbv_opaque] def zhM:ACode:=dcC 0x8c1102c21005c060210a73201234a4c1a00806c231003c3107211023c14031315307014304c5c363c2113 []
@[cbv_opaque] def zhJ:ACode:=dcC 0x80600656104240126ea0809c2313 []
def zjP:ACode:=dcC 0x1909605007005000001501101fa01120241215c040030926133811052014c822134116c42113 [zhM,zhJ]
def zj8:List ARet:=[.tmp 4]
theorem zoV:zO Tryz.prog zfj (qRo [])=some (zjP.strip,zj8,23):=by kernel_rfl
@[cbv_opaque] def zg8:ACode:=dcC 0x487310a21001c069c22100000876105218c813c0101001115c0a00800511402c212202fa0a00402c231300b310721102b14031315307014300c1c36b2113 []
@[cbv_opaque] def zhb:ACode:=dcC 0x80b00231710421103fa080ac2313 []
def zjb:ACode:=dcC 0x1909605010000015030823133016c01134116c42113 [zg8,zhb]
def zje:List ARet:=[.tmp 4]
theorem zn6:zO Tryz.prog zgV (qRo [])=some (zjb.strip,zje,24):=by kernel_rfl
def zj9:ACode:=dcC 0x80000000000000000001029c10421018c701ac204fa31136123311351237d61001011c7013c204fa31136113311351139c610019204fa011061030110510308c132003100021c011c22313 []
def zeG:List ARet:=[.tmp 4]
theorem zo1:zO Tryz.prog zdM (qRo [2,3])=some (zj9.strip,zeG,24):=by kernel_rfl
@[cbv_opaque] def zA:ACode:=dcC 0x0bc63105c21008c063d221080c000c01610062113140004c08610c01221dbc00c320b32050ec25130002c750d13814443992132012340a0040ac26130006c4ccb381ac072444398213208c6c34020061315307014307c8c366c2113 []
@[cbv_opaque] def zB:ACode:=.seq (.region [(oN 6 (.mov (.c (.bool true))))] [1,2,15,16,17]) (.ret)
def zE:ACode:=dcC 0x1909605750300000150303c2313308b00041006211314000a412c86015040015030a251336110062113 [zA,zB]
def zl:List ARet:=[.tmp 6]
theorem zaa:zO Tryz.prog zq (qRo [])=some (zE.strip,zl,32):=by kernel_rfl
@[cbv_opaque] def zej:ACode:=dcC 0x18c210b21002c06021008c2024c1024c021147c10001360107c2213000955103216c060150800603c2513000c3105211020c14031315307014301c2c360c2113 []
@[cbv_opaque] def zeo:ACode:=dcC 0x6d110fc21002d066d22100ac84106212813c0b00903d241000d3108211020d14031335327014301d2d360d2113 []
@[cbv_opaque] def zem:ACode:=.seq (.region [(oM 35 6),(oM 2 35)] [6,25,26,27,35]) (.ret)
@[cbv_opaque] def zex:ACode:=dcC 0x1909625010000015030dc231330b005361062140225fa060bc2313 [zeo,zem]
def zfE:ACode:=dcC 0x1909605000000150309231330000001132116c22113 [zej,zex]
def zfC:List ARet:=[.tmp 2]
theorem zjN:zO Tryz.prog zdF (qRo [])=some (zfE.strip,zfC,36):=by kernel_rfl
def zgE:ACode:=dcC 0x892c004104210ec221300000000002c1b1002110dc1cc0150300122001812c4c04001108c1cc01164c0300300a1143c10001560103c221300000016810121b16011c1601503001164c030040081330062024c1024c0211451000136040021334116c42113 []
def zdS:List ARet:=[.tmp 4]
theorem zlw:zO Tryz.prog zes (qRo [])=some (zgE.strip,zdS,27):=by kernel_rfl
@[cbv_opaque] def zeR:ACode:=dcC 0x07c43101c21004c06dc22108a0a00510042113fc40000000a5901ac860211021214028002400211021214028002304c222302c2105220021315307014303c4c362c2113 []
@[cbv_opaque] def zeI:ACode:=.seq (.region [(oN 4 (.mov (.c (.bool true))))] [0,1,12,13]) (.ret)
def zf4:ACode:=dcC 0x190960505430000015030b231330880031004211314000641a860150400150306251334110042113 [zeR,zeI]
def zb5:List ARet:=[.tmp 4]
theorem zkS:zO Tryz.prog zbj (qRo [])=some (zf4.strip,zb5,26):=by kernel_rfl
def zI:List AV:=[.int .i64 0]
def cI1(n:Int):List AV:=[.int .i64 n]
theorem zwC{l:List Int}{H:AH}:zgy 1 (za l) H=some (l.map cI1):=zoO (fun _ _=>rfl)
theorem zss{H:AH}{nx:Nat}:xopR .capn [.nilsl] H nx=⟨True,True,.int .i64 0,H,nx⟩:=rfl
theorem zAb{sz b:Nat}{z:List AV}{k:IntKind}{n:Int}{H:AH}{nx:Nat}:xopR (.apz sz b z) [.nilsl,.int k n] H nx=⟨0≤n∧n * b≤140737488355328∧0 < sz∧0 < b,True,.own nx 0 0 0 n.toNat,H.set nx 0 (.row sz (Wg n.toNat z) 0),nx+1⟩:=rfl
theorem zv7{s:Nat}{k:IntKind}{b:Int}{H:AH}{nx:Nat}:zhR s .nilsl none (some (.int k b)) H nx=⟨(0:Int)=0∧b=0,True,.nilsl,H,nx⟩:=rfl
theorem zBp{n:Nat}{c:List AV}(h:zH c=true):zr (Wg n c):=fun d hd=>by rw[WL hd];exact h
theorem renZI{ρ:Nat→Nat}{n g:Nat}:AObj.ren ρ (.row 1 (Wg n zI) g)=.row 1 (Wg n zI) g:=by simp only[AObj.ren];rw[zh2 (zBp rfl)]
theorem zCL(n:Nat)(hn:n≤100000):zU Tryz.prog zes [.nilsl,.int .i64 n] [] 0 (fun v H nx=>v=.own 0 0 0 0 0∧H=[(0,.row 1 (Wg n zI) 0)]∧nx=1):=by
 refine zR (fn_x zlw rfl ?_)
 unfold zgE;conv in dcC _ _=>cbv
 have hB:=hBig
 by_cases h0:0 < n
 ·
  have hsub:((n:Int) - (0 - 0)).toNat=n:=by omega
  (refine Gw7 @dF @dT @zss @zAb @zv7 hsub @zdS.eq_1 ?_;intros);exact⟨.own 0 0 0 0 0,[(0,.row 1 (Wg n zI) 0)],1,(Ent.tab [(0,1,0)] [] rfl (Gin2_1 @zI.eq_1) (Gin2_1 @zI.eq_1)),rfl,rfl,rfl⟩
 ·
  obtain rfl:n=0:=by omega
  (refine Gw3 @dF @zss @zdS.eq_1 ?_;intros);exact⟨.own 0 0 0 0 0,[(0,.row 1 (Wg 0 zI) 0)],1,(Ent.tab [] [] rfl Qh Qh),rfl,rfl,rfl⟩
def LLI(A:List (List Int)):List (List AV):=A.map fun a=>[za a]
theorem zb6{A:List (List Int)}:zr (LLI A):=zD fun _=>rfl
def lenI(A:List (List Int)):Nat:=(A.map List.length).sum
theorem zsD{α}{A:List α}{i:Nat}(h:i < A.length):A.take (i+1)=A.take i++[A[i]]:=by rw[List.take_add_one,List.getElem?_eq_getElem h];rfl
theorem zuJ(A B:List (List Int)):lenI (A++B)=lenI A+lenI B:=by unfold lenI;rw[Wp,WE]
theorem zr3{A:List (List Int)}{i:Nat}(h:i < A.length):lenI (A.take (i+1))=lenI (A.take i)+A[i].length:=by rw[zsD h,zuJ];rfl
theorem zpY{A:List (List Int)}(i:Nat):lenI (A.take i)≤lenI A:=by
 conv=>rhs;rw[←List.take_append_drop i A,zuJ]
 omega
theorem zsF{A:List (List Int)}{i:Nat}(h:i < A.length):(A.take (i+1)).flatten=(A.take i).flatten++A[i]:=by rw[zsD h,List.flatten_append];simp
theorem zps(A:List (List Int)):A.flatten.length=lenI A:=by rw[List.length_flatten];rfl
theorem zyh(A:List (List Int))(h1:A.length≤1000)(h2:lenI A≤100000):zU Tryz.prog zdF [.own 0 0 0 0 A.length] [(0,.row 1 (LLI A) 0)] 1 (fun v H nx=>v=.own 1 0 0 0 A.flatten.length∧H=[(0,.row 1 (LLI A) 0),(1,.row 1 (A.flatten.map cI1) 0)]∧nx=2):=by
 refine zR (fn_x zjN rfl ?_)
 unfold zfE;conv in dcC _ _=>cbv
 have hB:=hBig
 have hrl:(LLI A).length=A.length:=by simp[LLI]
 (refine Gw0 ?_;intros);refine zd (fun i:Nat=>([(0,.own 0 0 0 0 A.length),(3,.int .i64 (lenI (A.take i):Nat)),(9,.own 0 0 0 0 A.length),(10,.int .i64 A.length),(11,.int .i64 i)],[(0,.row 1 (LLI A) 0)])) 1 (fun i=>i≤A.length) (fun i=>A.length - i) 0 (We _) (Ent.tabB [(0,0,0)] [] rfl rfl rfl Qh Qh) ?_;intro i hi wf
 unfold zej;conv in dcC _ _=>cbv
 have hle:=zpY (A:=A) i
 by_cases hil:i < A.length
 ·
  have hg:(LLI A).getD i []=[za A[i]]:=zn hil;have hst:=zr3 hil;have hle2:=zpY (A:=A) (i+1);have hnn:decide (((lenI (A.take i):Nat):Int)+((A[i].length:Nat):Int) < 0)=false:=decide_eq_false (by omega);(refine Gw5 @dT hg hrl hnn @ua ?_;intros);refine⟨i+1,by omega,by omega,?_⟩
  have hsi:((lenI (A.take (i+1)):Nat):Int)=((lenI (A.take i):Nat):Int)+((A[i].length:Nat):Int):=by omega
  rw[hsi];exact(Ent.tabB [(0,0,0)] [] rfl rfl rfl Qh Qh)
 ·
  (refine Qd ?_;intros)
  unfold zex;conv in dcC _ _=>cbv
  obtain rfl:i=A.length:=by omega
  rw[Wh];(refine Gw1 hrl ?_;intros);refine zx [] 0 _ (zCL (lenI A) h2) rfl rfl Gin1_0 Gin1_0 ?_;rintro _ _ _ ⟨rfl,rfl,rfl⟩;(refine Gw2 hrl @renZI ?_;intros);refine zd (fun j:Nat × Nat=>([(6,.own 1 0 0 0 (lenI (A.take j.1))),(25,.own 0 0 0 0 A.length),(26,.int .i64 A.length),(27,.int .i64 j.1)],[(0,.row 1 (LLI A) 0),(1,.row 1 ((A.take j.1).flatten.map cI1++Wg j.2 zI) 0)])) 2 (fun j=>j.1≤A.length∧(j.1=0→j.2=lenI A)∧(j.1≠0→j.2=0)) (fun j=>A.length - j.1) (0,lenI A) ⟨We _,fun _=>rfl,fun h=>absurd rfl h⟩ ?_ ?_
  · exact(Ent.tabB [(0,0,0),(1,1,0)] [] rfl rfl rfl Qh Qh)
  ·
   rintro⟨i,m⟩ ⟨hi,hm0,hm1⟩ wf
   unfold zeo;conv in dcC _ _=>cbv
   have hle:=zpY (A:=A) i;simp only at hi hm0 hm1
   by_cases hil:i < A.length
   ·
    have hg:(LLI A).getD i []=[za A[i]]:=zn hil;have hst:=zr3 hil;have hle2:=zpY (A:=A) (i+1)
    have hfl:((A.take i).flatten.map cI1).length=lenI (A.take i):=by rw[Wn,zps]
    have htk:((A.take i).flatten.map cI1++Wg m zI).take (lenI (A.take i))=(A.take i).flatten.map cI1:=List.take_left' hfl
    have hll:((A.take i).flatten.map cI1++Wg m zI).length=lenI (A.take i)+m:=by rw[Wj,hfl,List.length_replicate]
    have hel:∀H,zgy 1 (encL 1 (fun n=>[AV.int .i64 n]) A[i]) H=some (A[i].map cI1):=fun H=>zwC
    have hsi:((lenI (A.take (i+1)):Nat):Int)=((lenI (A.take i):Nat):Int)+((A[i].length:Nat):Int):=by omega
    have hap:(A.take (i+1)).flatten.map cI1++Wg 0 zI=(A.take i).flatten.map cI1++A[i].map cI1:=by rw[zsF hil,Wp];simp
    (refine Gw7 @dT hg hrl hel htk hll @ua ?_;intros);refine⟨(i+1,0),⟨by simp only;omega,fun h=>absurd h (Nat.succ_ne_zero i),fun _=>rfl⟩,by simp only;omega,?_⟩;simp only;rw[hap,hst];exact(Ent.tabB [(0,0,0),(1,1,1)] [] rfl rfl rfl Qh Qh)
   ·
    (refine Qd ?_;intros);unfold zem
    obtain rfl:i=A.length:=by omega
    obtain rfl:m=0:=by
     by_cases h:A.length=0
     · rw[hm0 h,List.eq_nil_of_length_eq_zero h];rfl
     · exact hm1 h
    have hap:(A.take A.length).flatten.map cI1++Wg 0 zI=A.flatten.map cI1:=by rw[Wh];simp
    rw[hap,Wh,←zps];(refine Gw1 @zfC.eq_1 ?_;intros);exact⟨.own 1 0 0 0 A.flatten.length,[(0,.row 1 (LLI A) 0),(1,.row 1 (A.flatten.map cI1) 0)],2,(Ent.tabB [(0,0,0),(1,1,0)] [] rfl rfl rfl Qh Qh),rfl,rfl,rfl⟩
theorem renLLI{ρ:Nat→Nat}{A:List (List Int)}{g:Nat}:AObj.ren ρ (.row 1 (LLI A) g)=.row 1 (LLI A) g:=by simp only[AObj.ren];rw[zh2 zb6]
theorem renC1{ρ:Nat→Nat}{l:List Int}{g:Nat}:AObj.ren ρ (.row 1 (l.map cI1) g)=.row 1 (l.map cI1) g:=by simp only[AObj.ren];rw[zh2 (zD fun _=>rfl)]
def unL(a b:List Int):List Int:=((Wc 12).filter fun(v:Nat)=>decide ((v:Int)∈a∨(v:Int)∈b)).map fun(v:Nat)=>(v:Int)
theorem zEB{a b:List Int}:srtL (addL (0,[]) (a++b)) []=unL a b:=by
 unfold srtL unL
 congr 1
 refine Wx fun v _=>?_
 unfold srtP;rw[zw5,WB,WC];refine decide_eq_decide.2 ?_;rw[zji,Ws];simp[MS.keys]
theorem QY{p:Prop}(h:p:=by(try simp only[evWB,Nat.reduceBEq,Nat.reduceAdd,Nat.reduceSub,Nat.reduceLeDiff,Nat.reduceLT,implies_true])<;>(repeat' with_reducible apply And.intro)<;>first | (first|exact zg|exact RowV.of_flat zb6;done)|exact fin6):p:=h
theorem QZ{A0 p:Prop}(a0:A0)(h:A0→p:=by intro a0;(try simp only[evWB,Nat.reduceBEq,Nat.reduceAdd,Nat.reduceSub,Nat.reduceLeDiff,Nat.reduceLT,implies_true,a0])<;>(repeat' with_reducible apply And.intro)<;>first | (first|exact zg|exact RowV.of_flat zb6;done)|exact fin6):p:=h a0
theorem Qaa{A0 A1 A2 p:Prop}(a0:A0)(a1:A1)(a2:A2)(h:A0→A1→A2→p:=by intro a0 a1 a2;(try simp only[evWB,Nat.reduceBEq,Nat.reduceAdd,Nat.reduceSub,Nat.reduceLeDiff,Nat.reduceLT,implies_true,a0,a1,a2])<;>(repeat' with_reducible apply And.intro)<;>first | (first|exact zg|exact RowV.of_flat zb6;done)|exact fin6):p:=h a0 a1 a2
theorem Qab{A0 A1 A2 A3 p:Prop}(a0:A0)(a1:A1)(a2:A2)(a3:A3)(h:A0→A1→A2→A3→p:=by intro a0 a1 a2 a3;(try simp only[evWB,Nat.reduceBEq,Nat.reduceAdd,Nat.reduceSub,Nat.reduceLeDiff,Nat.reduceLT,implies_true,a0,a1,a2,a3])<;>(repeat' with_reducible apply And.intro)<;>first | (first|exact zg|exact RowV.of_flat zb6;done)|exact fin6):p:=h a0 a1 a2 a3
theorem zko(a b:List Int)(hl:(a++b).length≤10000):zz Tryz.prog zfj [za a,za b] (·=za (unL a b)):=by
 refine fn_x zoV rfl ?_
 unfold zjP;conv in dcC _ _=>cbv
 have hB:=hBig;have hcc:=zyh [a,b] (by simp) (by unfold lenI;simp only[Wi,Wq,List.sum_cons,List.sum_nil];rw[Wj] at hl;omega);rw[show [a,b].flatten=a++b by simp] at hcc;have hL:LLI [a,b]=[(za a).cells,(za b).cells]:=rfl;rw[←zEB];generalize a++b=us at hl hcc ⊢;simp only[Wy,WF] at hcc;(refine Gw0 ?_;intros);refine⟨⟨⟨rfl,rfl⟩,rfl,rfl,by decide⟩,?_⟩;rw[←hL];refine zx [(0,2,0)] 1 _ hcc rfl rfl QY QY ?_;rintro _ _ _ ⟨rfl,rfl,rfl⟩
 (repeat first|simp(disch:=try exact dis1) only[evD,Nat.reduceBEq,Nat.reduceAdd,Nat.reduceLeDiff,renLLI,renC1,AV.ren,show Tab.to [(0,2,0)] 3 1=4 from rfl]|with_reducible intro _ | ((with_reducible apply Wa);omega))
 refine zd (fun i:Nat=>([(5,.mp 0 0),(12,za us),(13,.int .i64 us.length),(14,.int .i64 i)],[(0,.row 3 ((setM (addL (0,[]) (us.take i)).1 (addL (0,[]) (us.take i)).2).map cm) 0)])) 1
  (fun i=>i≤us.length) (fun i=>us.length - i) 0 (We _) (by rw[List.take_zero,show addL (0,[]) []=(0,[]) from rfl];exact(Ent.tab [(0,1,0)] [4] rfl (QZ @ze) (QZ @ze))) ?_
 rintro i hi wf;clear wf
 unfold zhM;conv in dcC _ _=>cbv
 by_cases hil:i < us.length
 ·
  have hgl:(us.map fun n=>[AV.int .i64 n]).getD i []=[.int .i64 us[i]]:=zn (f:=fun n=>[AV.int .i64 n]) hil;have htk:=zim (s:=(0,[])) hil;have hbd:=zdN (l:=us.take i) (s:=(0,[]));rw[Wu] at hbd;have g4:=zkE (l:=us.take i) zti (by simp only[Wu];omega) (by simp only[Wu,WF];omega);generalize addL (0,[]) (us.take i)=d at g4 hbd htk ⊢;obtain⟨cc,ps⟩:=d;have htop:=g4.top;simp only[WF] at hbd htop
  by_cases hm:us[i]∈ps.map (·.1)
  · obtain⟨j,hj,hje,hf⟩:=zgr hm;have e1:add1 (cc,ps) us[i]=(cc,ps):=if_pos hm;rw[e1] at htk;have hov:=zok hj hje;(refine Gw6 @dT hgl @ua @ze hf hov ?_;intros);exact⟨i+1,hil,by omega,(Ent.tab [(0,0,0)] [] rfl (Qaa @ze @ua htk) (Qaa @ze @ua htk))⟩
  · have hf:=zeH hm;have e1:add1 (cc,ps) us[i]=(cc+1,ps++[(us[i],cc)]):=if_neg hm;rw[e1] at htk;(refine Gw5 @dT hgl @ua @ze hf ?_;intros);exact⟨i+1,hil,by omega,(Ent.tab [(0,0,0)] [] rfl (Qab @ze @ua htk @zfk) (Qab @ze @ua htk @zfk))⟩
 ·
  obtain rfl:i=us.length:=by omega
  rw[Wh];generalize addL (0,[]) us=d;(refine Qd ?_;intros)
  unfold zhJ;conv in dcC _ _=>cbv
  (refine Gw0 ?_;intros);refine zx [(0,0,0)] 1 _ (znG d []) rfl rfl (QZ @ze) (QZ @ze) ?_;rintro _ _ _ ⟨rfl,rfl,rfl⟩;(refine Gw3 @renM @renE @zj8.eq_1 ?_;intros);exact⟨_,zai rfl,rfl⟩
def cmL(a b:List Int):List Int:=a.filter (hasI b)
theorem Qv{p:Prop}(h:p:=by(try simp only[evWB,Nat.reduceBEq,Nat.reduceAdd,Nat.reduceSub,Nat.reduceLeDiff,Nat.reduceLT,implies_true,za,List.length_append,List.length_singleton,List.map_append,List.map_cons,List.map_nil])<;>(repeat' with_reducible apply And.intro)<;>first | (first|exact zg|exact RowV.of_flat zb6;done)|exact fin6):p:=h
theorem Qac{A0 A1 p:Prop}(a0:A0)(a1:A1)(h:A0→A1→p:=by intro a0 a1;(try simp only[evWB,Nat.reduceBEq,Nat.reduceAdd,Nat.reduceSub,Nat.reduceLeDiff,Nat.reduceLT,implies_true,a0,a1])<;>(repeat' with_reducible apply And.intro)<;>first | (first|exact zg|exact RowV.of_flat zb6;done)|exact fin6):p:=h a0 a1
theorem zod(a b:List Int)(hl:a.length≤10000):zz Tryz.prog zgV [za a,za b] (·=za (cmL a b)):=by
 refine fn_x zn6 rfl ?_
 unfold zjb cmL;conv in dcC _ _=>cbv
 have hB:=hBig
 have hcon:=fun x=>zaq b x
 have hfl:=WG (hasI b) a;generalize hR:a.filter (hasI b)=R at hfl;(refine Gw1 @ua ?_;intros);refine zd (fun s:Nat × List Int × Nat=>([(1,za b),(5,.own 0 0 s.2.2 0 s.2.1.length),(8,za a),(9,.int .i64 a.length),(10,.int .i64 s.1)],[(0,.row 1 (s.2.1.map fun n=>[.int .i64 n]) s.2.2)])) 1 (fun s=>s.1≤a.length∧s.2.1.length≤s.1∧s.2.1++(a.drop s.1).filter (hasI b)=R) (fun s=>a.length - s.1) (0,[],0) ⟨We _,Wm _,hR⟩ (Ent.tab [(0,1,0)] [] rfl (Qac @ze @ua) (Qac @ze @ua)) ?_;rintro⟨i,out,γ⟩ ⟨hi,hol,hgo⟩ wf;simp only at hi hol hgo;clear wf hR
 unfold zg8;conv in dcC _ _=>cbv
 by_cases hil:i < a.length
 case neg =>
  rw[WM (by omega),List.filter_nil,List.append_nil] at hgo;subst hgo;(refine Qd ?_;intros)
  unfold zhb;conv in dcC _ _=>cbv
  (refine Gw0 ?_;intros);refine zx [(0,0,0)] 1 _ (zct γ out (by omega)) rfl rfl QY QY ?_;rintro _ _ _ ⟨rfl,rfl,rfl⟩
  (repeat first|simp(disch:=try exact dis1) only[evD,Nat.reduceBEq,Nat.reduceAdd,Nat.reduceLeDiff,zqO,AV.ren,show Tab.to [(0,0,0)] 1 0=0 from rfl,zje]|with_reducible intro _ | ((with_reducible apply Wa);omega))
  exact⟨_,zen trivial rfl (by omega),rfl⟩
 rw[WN hil,WH] at hgo;have hgl:(a.map fun n=>[AV.int .i64 n]).getD i []=[.int .i64 a[i]]:=zn (f:=fun n=>[AV.int .i64 n]) hil;have hc:=hcon a[i];generalize a[i]=x at hgo hgl hc
 have em:(out.map fun n=>[AV.int .i64 n])++[[AV.int .i64 x]]=(out++[x]).map fun n=>[AV.int .i64 n]:=by simp
 cases hh:hasI b x with
 |
  true =>
  rw[hh,if_pos rfl] at hgo;rw[hh] at hc;(refine Gw3 @dT hgl @ua ?_;intros);refine zi (zf hc rfl) ?_;(refine Gw1 em ?_;intros);exact⟨(i+1,out++[x],γ+1),⟨hil,by simp;omega,by rw[←hgo];simp⟩,by simp only;omega,(Ent.tab [(0,0,0)] [] rfl Qv Qv)⟩
 |
  false =>
  rw[hh,if_neg (by decide)] at hgo;rw[hh] at hc;(refine Gw3 @dT hgl @ua ?_;intros);refine zi (zf hc rfl) ?_;(refine Gw0 ?_;intros);exact⟨(i+1,out,γ),⟨hil,by simp only;omega,hgo⟩,by simp only;omega,(Ent.tab [(0,0,0)] [] rfl (Qac @ze @ua) (Qac @ze @ua))⟩
theorem zpb{α:Type}{a b:List α}{i:Nat}(ha:i < a.length)(hb:i < b.length):a.take (i+1)=b.take (i+1)↔a.take i=b.take i∧a[i]=b[i]:=by
 rw[Wt ha,Wt hb];constructor
 · intro h;have h2:=List.append_inj' h rfl;exact⟨h2.1,by simpa using h2.2⟩
 · rintro⟨h1,h2⟩;rw[h1,h2]
theorem zr7{α:Type}{a b:List α}{i:Nat}(ha:i < a.length)(hb:i < b.length)(h:a[i]≠b[i]):a≠b:=fun e=>by subst e;exact h rfl
theorem Qad{A0 p:Prop}(a0:A0)(h:A0→p:=by intro a0;(try simp only[evWB,Nat.reduceBEq,Nat.reduceAdd,Nat.reduceSub,Nat.reduceLeDiff,Nat.reduceLT,implies_true,a0])<;>(repeat' with_reducible apply And.intro)<;>first | (exact zg;done)|exact fin6):p:=h a0
theorem ziM(a b:List Int)(ha:a.length≤1000000)(hb:b.length≤1000000):zz Tryz.prog zbj [za a,za b] (·=.bool (decide (a=b))):=by
 refine fn_x zkS rfl ?_
 unfold zf4;conv in dcC _ _=>cbv
 have hB:=hBig
 by_cases hl:a.length=b.length
 case neg =>rw[decide_eq_false (fun e=>hl (by rw[e]))];(refine Gw3 @dT @ua @zb5.eq_1 ?_;intros);exact⟨_,.bool _ _,rfl⟩
 (refine Gw2 @dF @ua ?_;intros);refine zd (fun i:Nat=>([(0,za a),(1,za b),(12,.int .i64 a.length),(13,.int .i64 i)],[])) 0 (fun i=>i≤a.length∧a.take i=b.take i) (fun i=>a.length - i) 0 ⟨We _,rfl⟩ (Ent.tab [] [] rfl (Qad @ua) (Qad @ua)) ?_;rintro i ⟨hi,he⟩ wf;clear wf
 unfold zeR;conv in dcC _ _=>cbv
 by_cases hil:i < a.length
 case neg =>
  obtain rfl:i=a.length:=by omega
  rw[Wh] at he;rw[hl,Wh] at he;rw[decide_eq_true he];(refine Qd ?_;intros);unfold zeI;(refine Gw1 @zb5.eq_1 ?_;intros);exact⟨_,.bool _ _,rfl⟩
 have hib:i < b.length:=by omega
 have ga:(a.map fun n=>[AV.int .i64 n]).getD i []=[.int .i64 a[i]]:=zn (f:=fun n=>[AV.int .i64 n]) hil;have gb:(b.map fun n=>[AV.int .i64 n]).getD i []=[.int .i64 b[i]]:=zn (f:=fun n=>[AV.int .i64 n]) hib;have hs:=zpb hil hib;have hn:=zr7 hil hib;generalize a[i]=x at ga hs hn;generalize b[i]=y at gb hs hn
 by_cases hxy:x=y
 · (refine Gw6 @dT @dF ga gb @ua @ue ?_;intros);exact⟨i+1,⟨hil,hs.2 ⟨he,hxy⟩⟩,by omega,(Ent.tab [] [] rfl (Qad @ua) (Qad @ua))⟩
 · rw[decide_eq_false (hn hxy)];(refine Gw7 @dT @dF ga gb @ua @ue @zb5.eq_1 ?_;intros);exact⟨_,.bool _ _,rfl⟩
def eqS(a b:Sgn):Bool:=decide (a.args=b.args)&&(decide (a.res=b.res)&&decide (a.sav=b.sav))
structure SgnLe(n:Nat)(s:Sgn):Prop where
 args:s.args.length≤n
 res:s.res.length≤n
 sav:s.sav.length≤n
theorem zAz{a b:Sgn}:eqS a b=true↔a=b:=by obtain⟨a1,a2,a3⟩:=a;obtain⟨b1,b2,b3⟩:=b;unfold eqS;simp
theorem zoy(a b:Sgn)(ha:SgnLe 1000000 a)(hb:SgnLe 1000000 b):zz Tryz.prog zdM [.agg a.cells,.agg b.cells] (·=.bool (eqS a b)):=by
 refine fn_x zo1 rfl ?_
 unfold zj9 eqS;conv in dcC _ _=>cbv
 have hB:=hBig;have h1:=ziM a.args b.args ha.args hb.args;have h2:=ziM a.res b.res ha.res hb.res;have h3:=ziM a.sav b.sav ha.sav hb.sav;simp only[Sgn.cells];(refine Gw3 @ub @zP @ua ?_;intros);refine zi (zf h1 rfl) ?_
 cases hd1:decide (a.args=b.args) with
 |
  false =>
  (refine Gw4 @ub @zP @ua @zeG.eq_1 ?_;intros);exact⟨_,.bool _ _,rfl⟩
 |
  true =>
  (refine Gw3 @ub @zP @ua ?_;intros);refine zi (zf h2 rfl) ?_
  cases hd2:decide (a.res=b.res) with
  |
   false =>
   (refine Gw4 @ub @zP @ua @zeG.eq_1 ?_;intros);exact⟨_,.bool _ _,rfl⟩
  |
   true =>
   (refine Gw3 @ub @zP @ua ?_;intros);refine zi (zf h3 rfl) ?_;(refine Gw1 @zeG.eq_1 ?_;intros);exact⟨_,.bool _ _,rfl⟩
def sgL(s:Sgn):List (List Int):=[s.args,s.res,s.sav]
def eqSL(l m:List Sgn):Bool:=decide (l.map sgL=m.map sgL)
theorem zqo:∀{l m:List Sgn},l.map sgL=m.map sgL→l=m
 | [],[],_=>rfl
 | [],_::_,h=>by cases h
 | _::_,[],h=>by cases h
 |
  ⟨a1,a2,a3⟩::l,⟨b1,b2,b3⟩::m,h=>by
  simp only[Wi,sgL,List.cons.injEq,and_true] at h;obtain⟨⟨rfl,rfl,rfl⟩,h⟩:=h;rw[zqo h]
theorem ztE{l m:List Sgn}(h:l=m):eqSL l m=true:=decide_eq_true (by rw[h])
theorem zrY{l m:List Sgn}(h:l≠m):eqSL l m=false:=decide_eq_false (fun e=>h (zqo e))
theorem znA(l m:List Sgn)(hl:l.length≤1000000)(hm:m.length≤1000000)(h1:∀s∈l,SgnLe 1000000 s)(h2:∀s∈m,SgnLe 1000000 s):zz Tryz.prog zq [encL 3 Sgn.cells l,encL 3 Sgn.cells m,.fn (.func zdM) []] (·=.bool (eqSL l m)):=by
 refine fn_x zaa rfl ?_
 unfold zE;conv in dcC _ _=>cbv
 have hB:=hBig
 by_cases hle:l.length=m.length
 case neg =>rw[zrY (fun e=>hle (by rw[e]))];(refine Gw2 @dT @zl.eq_1 ?_;intros);exact⟨_,.bool _ _,rfl⟩
 (refine Qd ?_;intros);refine zd (fun i:Nat=>([(1,encL 3 Sgn.cells m),(2,.fn (.func zdM) []),(15,encL 3 Sgn.cells l),(16,.int .i64 l.length),(17,.int .i64 i)],[])) 0 (fun i=>i≤l.length∧l.take i=m.take i) (fun i=>l.length - i) 0 ⟨We _,rfl⟩ (Ent.tab [] [] rfl (by((try simp only[evWB,Nat.reduceBEq,Nat.reduceAdd,Nat.reduceSub,Nat.reduceLeDiff,Nat.reduceLT,implies_true])<;>(repeat' with_reducible apply Wa)<;>first | (exact .fn _ _ _ _ rfl (fun i a b h _=>by cases h);done)|exact fin6)) (by((try simp only[evWB,Nat.reduceBEq,Nat.reduceAdd,Nat.reduceSub,Nat.reduceLeDiff,Nat.reduceLT,implies_true])<;>(repeat' with_reducible apply Wa)<;>first | (exact .fn _ _ _ _ rfl (fun i a b h _=>by cases h);done)|exact fin6))) ?_;rintro i ⟨hi,he⟩ wf;clear wf
 unfold zA;conv in dcC _ _=>cbv
 by_cases hil:i < l.length
 case neg =>
  obtain rfl:i=l.length:=by omega
  rw[Wh] at he;rw[hle,Wh] at he;rw[ztE he];(refine Qd ?_;intros);unfold zB;(refine Gw1 @zl.eq_1 ?_;intros);exact⟨_,.bool _ _,rfl⟩
 have him:i < m.length:=by omega
 have ga:(l.map Sgn.cells).getD i []=l[i].cells:=zn (f:=Sgn.cells) hil;have gb:(m.map Sgn.cells).getD i []=m[i].cells:=zn (f:=Sgn.cells) him;have hs:=zpb hil him;have hn:=zr7 hil him;have hq:=zoy l[i] m[i] (h1 _ (Wf hil)) (h2 _ (Wf him));generalize l[i]=x at ga hs hn hq;generalize m[i]=y at gb hs hn hq
 have c3:∀s:Sgn,s.cells.length=3:=fun _=>rfl
 have t3:∀s:Sgn,[s.cells.getD 0 .undef,s.cells.getD 1 .undef,s.cells.getD 2 .undef]=s.cells:=fun _=>rfl
 (refine Gw7 @dT ga gb @ue @zP c3 t3 ?_;intros);refine⟨by kernel_rfl,zi (zf hq rfl) ?_⟩
 cases hxy:eqS x y with
 |
  true =>
  (refine Gw0 ?_;intros);exact⟨i+1,⟨hil,hs.2 ⟨he,zAz.1 hxy⟩⟩,by omega,(Ent.tab [] [] rfl (by((try simp only[evWB,Nat.reduceBEq,Nat.reduceAdd,Nat.reduceSub,Nat.reduceLeDiff,Nat.reduceLT,implies_true])<;>(repeat' with_reducible apply Wa)<;>first | (exact .fn _ _ _ _ rfl (fun i a b h _=>by cases h);done)|exact fin6)) (by((try simp only[evWB,Nat.reduceBEq,Nat.reduceAdd,Nat.reduceSub,Nat.reduceLeDiff,Nat.reduceLT,implies_true])<;>(repeat' with_reducible apply Wa)<;>first | (exact .fn _ _ _ _ rfl (fun i a b h _=>by cases h);done)|exact fin6)))⟩
 |
  false =>
  rw[zrY (hn fun e=>by rw[zAz.2 e] at hxy;cases hxy)];(refine Gw1 @zl.eq_1 ?_;intros);exact⟨_,.bool _ _,rfl⟩
def orI(a b:List Int)(v:Nat):Bool:=hasI a v||hasI b v
def andI(a b:List Int)(v:Nat):Bool:=hasI a v&&hasI b v
def znD(a b:Sgn):Sgn:=⟨svO (orI a.args b.args) 12,svO (orI a.res b.res) 12,svO (andI a.sav b.sav) 12⟩
def zoZ(gl:List G):List Int:=gl.map (·.addr)
def znQ:List G→Int
 | []=>0
 | g::l=>if zdU g≠0 then zdU g else znQ l
def ownB(at':List Int)(k:Nat):Bool:=decide (idxV (idxA at' (at'.getD k 0))=(k:Int))
def errA(gl:List G):Int:=if 64 < gl.length then 6 else if znQ gl≠0 then znQ gl else if (Wc gl.length).all (ownB (zoZ gl))=true then (if gl.all (fun g=>resG g (zoZ gl))=true then 0 else 17) else 8
theorem znf{α:Type}{p q:α→Bool}:∀{l:List α},(∀a∈l,p a=true→q a=true)→l.filter p=l.filter q∨(l.filter p).length < (l.filter q).length
 | [],_=>.inl rfl
 |
  a::l,h=>by
  have ih:=znf (l:=l) fun x hx=>h x (by simp[hx])
  have ha:=h a (by simp);rw[WH,WH]
  cases hp:p a with
  |
   true =>
   rw[hp] at ha;rw[ha rfl,if_pos rfl,if_pos rfl]
   rcases ih with e|e
   · exact .inl (by rw[e])
   · exact .inr (by simp only[Wy];omega)
  |
   false =>
   rw[if_neg (by decide)]
   cases hq:q a with
   |
    true =>
    rw[if_pos rfl]
    rcases ih with e|e
    · exact .inr (by rw[e];simp)
    · exact .inr (by simp only[Wy];omega)
   |
    false =>
    rw[if_neg (by decide)];exact ih
theorem ztx{f:Nat→Bool}{n v:Nat}(h:v < n):hasI (svO f n) v=f v:=by
 cases hf:f v with
 | true=>exact zkD (Ww.2 ⟨v,Wz.2 ⟨Wr.2 h,hf⟩,rfl⟩)
 |
  false =>
  refine zkC fun hm=>?_
  obtain⟨w,hw,he⟩:=Ww.1 hm
  obtain rfl:w=v:=by omega
  rw[(Wz.1 hw).2] at hf;cases hf
structure CanS(s:Sgn):Prop where
 args:∃f,s.args=svO f 12
 res:∃f,s.res=svO f 12
 sav:∃f,s.sav=svO f 12
theorem zxg(a b:Sgn):CanS (znD a b):=⟨⟨_,rfl⟩,⟨_,rfl⟩,⟨_,rfl⟩⟩
theorem zrU{s:Sgn}(h:CanS s):s.args.length≤12∧s.res.length≤12∧s.sav.length≤12:=by obtain⟨⟨f,hf⟩,⟨g,hg⟩,⟨k,hk⟩⟩:=h;rw[hf,hg,hk];exact⟨zqb,zqb,zqb⟩
def muS1(s:Sgn):Nat:=(12 - s.args.length)+(12 - s.res.length)+s.sav.length
theorem zAK{a:List Int}{f:Nat→Bool}(ha:a=svO f 12)(b:List Int):svO (orI a b) 12=a∨a.length < (svO (orI a b) 12).length:=by
 have hg:=znf (p:=f) (q:=orI a b) (l:=Wc 12) fun v hv hf=>by unfold orI;rw[ha,ztx (Wr.1 hv),hf,Bool.true_or]
 rcases hg with e|e
 · left;unfold svO;rw[←e,ha];rfl
 ·
  right
  have h1:a.length=((Wc 12).filter f).length:=by rw[ha];unfold svO;rw[Wn]
  rw[h1];unfold svO;rw[Wn];exact e
theorem zve{a:List Int}{f:Nat→Bool}(ha:a=svO f 12)(b:List Int):svO (andI a b) 12=a∨(svO (andI a b) 12).length < a.length:=by
 have hg:=znf (p:=andI a b) (q:=f) (l:=Wc 12) fun v hv hf=>by unfold andI at hf;rw[ha,ztx (Wr.1 hv),Wl] at hf;exact hf.1
 rcases hg with e|e
 · left;unfold svO;rw[e,ha];rfl
 ·
  right
  have h1:a.length=((Wc 12).filter f).length:=by rw[ha];unfold svO;rw[Wn]
  rw[h1];unfold svO;rw[Wn];exact e
theorem zAw{o:Sgn}(h:CanS o)(x:Sgn):znD o x=o∨muS1 (znD o x) < muS1 o:=by
 have hl:=zrU h;have hw:=zrU (zxg o x);obtain⟨⟨f,hf⟩,⟨g,hg⟩,⟨k,hk⟩⟩:=h;obtain⟨a,r,s⟩:=o;simp only at hf hg hk hl
 rcases zAK hf x.args with e1|e1
 ·
  rcases zAK hg x.res with e2|e2
  ·
   rcases zve hk x.sav with e3|e3
   · left;unfold znD;rw[e1,e2,e3]
   · right;unfold znD at hw ⊢;unfold muS1;simp only at hw e1 e2 e3 ⊢;rw[e1,e2];omega
  ·
   right
   have h3:(svO (andI s x.sav) 12).length≤s.length:=by
    rcases zve hk x.sav with e3|e3
    · rw[e3];exact Wm _
    · omega
   unfold znD at hw ⊢;unfold muS1;simp only at hw e1 e2 h3 ⊢;rw[e1];omega
 ·
  right
  have h2:r.length≤(svO (orI r x.res) 12).length:=by
   rcases zAK hg x.res with e2|e2
   · rw[e2];exact Wm _
   · omega
  have h3:(svO (andI s x.sav) 12).length≤s.length:=by
   rcases zve hk x.sav with e3|e3
   · rw[e3];exact Wm _
   · omega
  unfold znD at hw ⊢;unfold muS1;simp only at hw e1 h2 h3 ⊢;omega
def zkT(gl:List G)(at':List Int)(out:List Sgn):List Sgn:=(Wc gl.length).map fun k=>znD (out.getD k zbF) (sigG (gl.getD k ⟨0,[]⟩) out at')
def zcY(n:Nat):List Sgn:=Wg n ⟨[],[],[0,1,2,3,4,5,6,7]⟩
def allF(gl:List G)(at':List Int):Nat→List Sgn→List Sgn
 | 0,out=>out
 | n+1,out=>if eqSL (zkT gl at' out) out=true then out else allF gl at' n (zkT gl at' out)
def muA(out:List Sgn):Nat:=(out.map muS1).sum
def CanA(n:Nat)(out:List Sgn):Prop:=out.length=n∧∀s∈out,CanS s
theorem zya(n:Nat):CanA n (zcY n):=⟨by simp[zcY],fun s hs=>by
 rw[WL hs]
 exact⟨⟨fun _=>false,rfl⟩,⟨fun _=>false,rfl⟩,⟨fun v=>decide (v < 8),rfl⟩⟩⟩
theorem zuM{gl:List G}{at':List Int}{out:List Sgn}:CanA gl.length (zkT gl at' out):=⟨by simp[zkT],fun s hs=>by
 obtain⟨k,_,rfl⟩:=Ww.1 hs
 exact zxg _ _⟩
theorem zEa:∀{n:Nat}{f f':Nat→Nat},(∀k,k < n→f' k≤f k)→((Wc n).map f').sum≤((Wc n).map f).sum∧((∃k,k < n∧f' k < f k)→((Wc n).map f').sum < ((Wc n).map f).sum)
 | 0,_,_,_=>⟨Wm _,fun⟨k,h,_⟩=>absurd h (Nat.not_lt_zero k)⟩
 |
  n+1,f,f',h=>by
  obtain⟨h1,h2⟩:=zEa (n:=n) (f:=f) (f':=f') fun k hk=>h k (by omega)
  have h3:=h n (WO n);rw[List.range_succ,Wp,Wp,WE,WE];simp only[Wi,Wq,List.sum_cons,List.sum_nil];refine⟨by omega,fun⟨k,hk,hlt⟩=>?_⟩
  by_cases hkn:k=n
  · subst hkn;omega
  · have:=h2 ⟨k,by omega,hlt⟩;omega
theorem zg1{α β:Type}{l:List α}{d:α}{f:α→β}:(Wc l.length).map (fun k=>f (l.getD k d))=l.map f:=by
 apply WI
 · simp
 ·
  intro k h1 h2
  have hk:k < l.length:=by simpa using h2
  simp[Wo,hk]
theorem zEt{gl:List G}{at':List Int}{out:List Sgn}(h:CanA gl.length out):zkT gl at' out=out∨muA (zkT gl at' out) < muA out:=by
 have hk:∀k,k < gl.length→CanS (out.getD k zbF):=fun k hk=>by
  have:k < out.length:=by rw[h.1];exact hk
  have e:out.getD k zbF=out[k]:=by simp[Wo,this]
  rw[e];exact h.2 _ (Wf this)
 have e1:muA out=((Wc gl.length).map fun k=>muS1 (out.getD k zbF)).sum:=by unfold muA;rw[←h.1,zg1 (l:=out) (d:=zbF) (f:=muS1)]
 have e2:muA (zkT gl at' out)=((Wc gl.length).map fun k=>muS1 (znD (out.getD k zbF) (sigG (gl.getD k ⟨0,[]⟩) out at'))).sum:=by unfold muA zkT;rw[List.map_map];rfl
 have hs:=zEa (n:=gl.length) (f:=fun k=>muS1 (out.getD k zbF)) (f':=fun k=>muS1 (znD (out.getD k zbF) (sigG (gl.getD k ⟨0,[]⟩) out at'))) fun k hkl=>by
  rcases zAw (hk k hkl) (sigG (gl.getD k ⟨0,[]⟩) out at') with e|e
  · simp only[e];exact Wm _
  · exact Nat.le_of_lt e
 by_cases hall:∀k,k < gl.length→znD (out.getD k zbF) (sigG (gl.getD k ⟨0,[]⟩) out at')=out.getD k zbF
 ·
  left;unfold zkT
  have:((Wc gl.length).map fun k=>znD (out.getD k zbF) (sigG (gl.getD k ⟨0,[]⟩) out at'))=(Wc gl.length).map fun k=>out.getD k zbF:=WP fun k hkm=>hall k (Wr.1 hkm)
  rw[this,←h.1];have:=zg1 (l:=out) (d:=zbF) (f:=id)
  simpa using this
 ·
  right
  obtain⟨k,hkl,hne⟩:∃k,k < gl.length∧znD (out.getD k zbF) (sigG (gl.getD k ⟨0,[]⟩) out at')≠out.getD k zbF:=Classical.byContradiction fun hn=>hall fun k hkl=>Classical.byContradiction fun hne=>hn ⟨k,hkl,hne⟩
  rw[e1,e2];refine hs.2 ⟨k,hkl,?_⟩
  rcases zAw (hk k hkl) (sigG (gl.getD k ⟨0,[]⟩) out at') with e|e
  · exact absurd e hne
  · exact e
def allS(gl:List G):List Sgn:=allF gl (zoZ gl) (muA (zcY gl.length)+1) (zcY gl.length)
theorem zpZ:∀s:Sgn,zH s.cells=true:=fun _=>rfl
def allA(gl:List G):AV:=if errA gl≠0 then .tup [encL 3 Sgn.cells [],.int .i64 (errA gl)] else .tup [encL 3 Sgn.cells (allS gl),.int .i64 0]
theorem zqY:∀{gl:List G},znQ gl=0→∀g∈gl,zdU g=0
 | [],_,g,h=>by cases h
 |
  x::gl,h,g,hg=>by
  rw[znQ] at h
  by_cases h0:zdU x=0
  ·
   rw[if_neg (fun e=>e h0)] at h
   rcases List.mem_cons.1 hg with rfl|hg
   · exact h0
   · exact zqY h g hg
  · rw[if_pos h0] at h;exact absurd h h0
theorem zz5{gl:List G}(h:errA gl=0):gl.length≤64∧(∀g∈gl,zdU g=0)∧(Wc gl.length).all (ownB (zoZ gl))=true∧gl.all (fun g=>resG g (zoZ gl))=true:=by
 unfold errA at h;split at h
 · cases h
 rename_i h1;split at h
 · rename_i h2;exact absurd h h2
 rename_i h2;split at h
 ·
  rename_i h3;split at h
  · rename_i h4;exact⟨by omega,zqY (Classical.byContradiction h2),h3,h4⟩
  · cases h
 · cases h
theorem ztW{H HH:AH}{σ:Nat→Nat→Option (Nat × Nat × Nat)}{D:Nat→Nat→Prop}{t:Bool}{r q g n:Nat}{l:List Sgn}(hn:l.length=n)(hD:D r q)(hg:H.get r q=some (.row 3 (l.map Sgn.cells) g))(hb:n≤big):Vw H HH σ D t (.own r q g 0 n) (encL 3 Sgn.cells l):=by subst hn;exact ziq hD hg hb (fun a ha j hj=>zdD (zj1 rfl))
theorem retSL{H:AH}{x:AV}{l:List Sgn}{n:Int}(hx:Frz H x (encL 3 Sgn.cells l)):∃a,Frz H (.tup [x,.int .i64 n]) a∧a=.tup [encL 3 Sgn.cells l,.int .i64 n]:=⟨.tup [encL 3 Sgn.cells l,.int .i64 n],.tup _ _ _ rfl (fun i a b h1 h2=>match i with
  | 0=>by cases h1;cases h2;exact hx
  | 1=>by cases h1;cases h2;exact .int _ _ _
  | i+2=>by cases h1),rfl⟩
def cU(p:Int × Nat):List AV:=[.int .u32 p.1,.bool true,.int .i64 (p.2:Int)]
def zoM(l:List Int):List (List AV):=[.int .i64 (l.length:Int),.undef,.undef]::l.zipIdx.map cU
theorem zbY{l:List Int}:zr (zoM l):=zbV rfl (zD fun _=>rfl)
theorem zvK{a:Int}:∀ {l:List (Int × Nat)} {i:Nat},(a∉l.map (·.1)→zcA (.int .u32 a) (l.map cU) i=some none)∧(a∈l.map (·.1)→∃j,zcA (.int .u32 a) (l.map cU) i=some (some (j,.bool true)))
 | [],i=>⟨fun _=>rfl,fun h=>by cases h⟩
 |
  p::l,i=>by
  obtain⟨h1,h2⟩:=zvK (a:=a) (l:=l) (i:=i+1)
  by_cases h:a=p.1
  · refine⟨fun hn=>absurd (by simp[h]) hn,fun _=>⟨i,?_⟩⟩;simp only[Wi,cU,zcA,zoP,if_true,decide_eq_true h]
  ·
   have e1:zcA (.int .u32 a) ((p::l).map cU) i=zcA (.int .u32 a) (l.map cU) (i+1):=by simp only[Wi,cU,zcA,zoP,if_true,decide_eq_false h]
   rw[e1];refine⟨fun hn=>h1 fun hm=>hn (List.mem_cons_of_mem _ hm),fun hm=>h2 ?_⟩
   rcases List.mem_cons.1 hm with hm|hm
   · exact absurd hm h
   · exact hm
theorem zzT{l:List Int}:l.zipIdx.map (·.1)=l:=by simp
theorem zBn{l:List Int}{a:Int}:(l++[a]).zipIdx.map cU=l.zipIdx.map cU++[[.int .u32 a,.bool true,.int .i64 (l.length:Int)]]:=by rw[List.zipIdx_append,Wp];simp[cU]
theorem zDc{at':List Int}{i:Nat}(hi:i < at'.length):ownB at' i = !decide (at'[i]∈at'.take i):=by
 unfold ownB;rw[show at'.getD i 0=at'[i] by simp[Wo,hi]];generalize hx:at'[i]=a
 cases hk:idxA at' a with
 |
  none =>
  exfalso;have h1:=List.findIdx?_eq_none_iff.1 hk at'[i] (Wf hi);rw[hx] at h1;simp at h1
 |
  some k =>
  obtain⟨h1,h2,h3⟩:=List.findIdx?_eq_some_iff_getElem.1 hk;have h2:=of_decide_eq_true h2
  have hki:k≤i:=Classical.byContradiction fun hn=>by have:=h3 i (by omega);rw[hx] at this;simp at this
  by_cases he:k=i
  ·
   subst he;rw[decide_eq_true (show idxV (some k)=(k:Int) from rfl),decide_eq_false (fun hm=>?_)]
   · rfl
   ·
    obtain⟨j,hj,hje⟩:=WQ.1 hm
    have hjk:j < k:=by rw[Wu] at hj;omega
    have:=h3 j hjk;rw[WR] at hje;rw[hje] at this;simp at this
  ·
   rw[decide_eq_false (show ¬idxV (some k)=(i:Int) from fun e=>he (by have:(k:Int)=i:=e;omega)),decide_eq_true]
   · rfl
   · refine WQ.2 ⟨k,by rw[Wu];omega,?_⟩;rw[WR];exact h2
theorem zxf{at':List Int}{a:Int}:(idxA at' a).isSome=decide (a∈at'):=by
 unfold idxA;rw[WD,List.findIdx?_isSome,List.any_eq_true,decide_eq_true_iff];constructor
 · rintro⟨x,h1,h2⟩;exact(of_decide_eq_true h2)▸h1
 · intro h;exact⟨a,h,decide_eq_true rfl⟩
theorem Qae{A0 p:Prop}(a0:A0)(h:A0→p:=by intro a0;(try simp only[evWB,Nat.reduceBEq,Nat.reduceAdd,Nat.reduceSub,Nat.reduceLeDiff,Nat.reduceLT,implies_true,a0])<;>(repeat' with_reducible apply And.intro)<;>first | (first|exact RowV.of_flat zbY;done)|exact fin6):p:=h a0
theorem zmI(gl:List G)(hm:∀g∈gl,fewC g)(hl:gl.length≤1000):zz Tryz.prog zfq [encL 2 G.cells gl] (·=.int .i64 (errA gl)):=by
 refine fn_x zmr rfl ?_
 unfold zhx errA;conv in dcC _ _=>cbv
 have hB:=hBig;have hal:(zoZ gl).length=gl.length:=Wn _
 have hga:∀i (h:i < gl.length) (h2:i < (zoZ gl).length),(zoZ gl)[i]=gl[i].addr:=fun i h h2=>WS (l:=gl) (fun g:G=>g.addr)
 generalize zoZ gl=at' at hal hga ⊢
 have t2:∀g:G,[g.cells.getD 0 .undef,g.cells.getD 1 .undef]=g.cells:=fun _=>rfl
 have c2:∀g:G,g.cells.length=2:=fun _=>rfl
 have ga0:∀g:G,g.cells.getD 0 .undef=.int .u32 g.addr:=fun _=>rfl
 by_cases h64:64 < gl.length
 · rw[if_pos h64];(refine Gw2 @dT @zba.eq_1 ?_;intros);exact⟨_,.int _ _ _,rfl⟩
 rw[if_neg h64];(refine Qd ?_;intros);generalize hE:znQ gl=E;refine zd (fun i:Nat=>([(0,encL 2 G.cells gl),(16,encL 2 G.cells gl),(17,.int .i64 gl.length),(18,.int .i64 i)],[])) 0 (fun i=>i≤gl.length∧znQ (gl.drop i)=E) (fun i=>gl.length - i) 0 ⟨We _,hE⟩ (Ent.tab [] [] rfl (Qae @ua) (Qae @ua)) ?_;rintro i ⟨hi,he⟩ wf;clear wf hE
 unfold zfT;conv in dcC _ _=>cbv
 by_cases hil:i < gl.length
 case pos =>
  rw[WN hil,znQ] at he;have gi:(gl.map G.cells).getD i []=gl[i].cells:=zn (f:=G.cells) hil;have hfi:=hm _ (Wf hil);have hck:=zj3 gl[i] (zsh hfi) (fun b hb s hs=>Wd (hfi.cases b hb s hs) (by decide));generalize gl[i]=g at gi he hck hfi
  by_cases h0:zdU g=0
  · rw[if_neg (fun h=>h h0)] at he;rw[h0] at hck;(refine Gw6 @dT gi t2 c2 @zP @ue ?_;intros);refine zi (zf hck rfl) ?_;(refine Qd ?_;intros);exact⟨i+1,⟨hil,he⟩,by omega,(Ent.tab [] [] rfl (Qae @ua) (Qae @ua))⟩
  · rw[if_pos h0] at he;subst he;rw[if_pos h0];(refine Gw6 @dT gi t2 c2 @zP @ue ?_;intros);refine zi (zf hck rfl) ?_;(refine Gw2 @dT @zba.eq_1 ?_;intros);exact⟨_,.int _ _ _,rfl⟩
 obtain rfl:i=gl.length:=by omega
 rw[WM (Wm _),znQ] at he;rw[←he,if_neg (fun h=>h rfl)];clear he;(refine Qd ?_;intros)
 unfold zfZ;conv in dcC _ _=>cbv
 (refine Gw0 ?_;intros);refine zd (fun i:Nat=>([(0,encL 2 G.cells gl),(6,.mp 0 0),(29,encL 2 G.cells gl),(30,.int .i64 gl.length),(31,.int .i64 i)],[(0,.row 3 (zoM (at'.take i)) 0)])) 1 (fun i=>i≤gl.length∧(Wc i).all (ownB at')=true) (fun i=>gl.length - i) 0 ⟨We _,rfl⟩ (by rw[show zoM (at'.take 0)=[[.int .i64 0,.undef,.undef]] from rfl];exact(Ent.tab [(0,0,0)] [] rfl (Qae @ua) (Qae @ua))) ?_;rintro i ⟨hi,he⟩ wf;clear wf
 unfold zgd;conv in dcC _ _=>cbv
 by_cases hil:i < gl.length
 case pos =>
  have hia:i < at'.length:=by omega
  have gi:(gl.map G.cells).getD i []=gl[i].cells:=zn (f:=G.cells) hil;have hob:=zDc hia;have htk:at'.take (i+1)=at'.take i++[at'[i]]:=Wt hia;rw[hga i hil hia] at hob htk;have ga:=ga0 gl[i];generalize gl[i]=g at gi hob ga htk;have hmf:=zvK (a:=g.addr) (l:=(at'.take i).zipIdx) (i:=0);rw[zzT] at hmf;have hsn:=zBn (l:=at'.take i) (a:=g.addr)
  have htl:(at'.take i).length=i:=by rw[Wu];omega
  by_cases hw:g.addr∈at'.take i
  ·
   rw[decide_eq_true hw] at hob;obtain⟨j,hf⟩:=hmf.2 hw
   rw[if_neg (fun h=>by
    have:=Wk.1 h i (Wr.2 hil);rw[hob] at this
    cases this)]
   (refine Gw11 @dT gi ga t2 c2 @zP @ub @ue @zoM.eq_1 hf @zba.eq_1 ?_;intros);exact⟨_,.int _ _ _,rfl⟩
  ·
   rw[decide_eq_false hw] at hob;have hf:=hmf.1 hw;(refine Gw10 @dT gi ga t2 c2 @zP @ub @ue @zoM.eq_1 hf ?_;intros)
   have hrow:zoM (at'.take (i+1))=[.int .i64 (((at'.take i).length:Int)+1),.undef,.undef]::((at'.take i).zipIdx.map cU++[[.int .u32 g.addr,.bool true,.int .i64 ((at'.take i).length:Int)]]):=by rw[htk];unfold zoM;rw[hsn,Wj];rfl
   refine⟨i+1,⟨hil,by rw[List.range_succ,WA,he];simp[hob]⟩,by omega,?_⟩;unfold zoM at hrow;rw[hrow];exact(Ent.tab [(0,0,0)] [] rfl (Qae @ua) (Qae @ua))
 obtain rfl:i=gl.length:=by omega
 rw[if_pos he];rw[show at'.take gl.length=at' by rw[←hal,Wh]];clear he;(refine Qd ?_;intros)
 unfold zgh;conv in dcC _ _=>cbv
 (refine Gw0 ?_;intros);refine zd (fun i:Nat=>([(6,.mp 0 0),(43,encL 2 G.cells gl),(44,.int .i64 gl.length),(45,.int .i64 i)],[(0,.row 3 (zoM at') 0)])) 1 (fun i=>i≤gl.length∧(gl.take i).all (fun g=>resG g at')=true) (fun i=>gl.length - i) 0 ⟨We _,rfl⟩ (Ent.tab [(0,0,0)] [] rfl (Qae @ua) (Qae @ua)) ?_;rintro i ⟨hi,he⟩ wf;clear wf
 unfold zf2;conv in dcC _ _=>cbv
 by_cases hil:i < gl.length
 case neg =>
  obtain rfl:i=gl.length:=by omega
  rw[Wh] at he;rw[if_pos he];(refine Qd ?_;intros);unfold zf3;(refine Gw1 @zba.eq_1 ?_;intros);exact⟨_,.int _ _ _,rfl⟩
 have gi:(gl.map G.cells).getD i []=gl[i].cells:=zn (f:=G.cells) hil;have hfi:=hm _ (Wf hil);have hca:=zkm gl[i] (Wd (zwf hfi) (by decide)) (Wd hfi.blocks (by decide)) (fun b hb=>Wd (hfi.stmts b hb) (by decide));have hrg:=zsl (g:=gl[i]) (at':=at');have hcl:=zrV hfi
 have htk:(gl.take (i+1)).all (fun g=>resG g at')=resG gl[i] at':=by rw[Wt hil,WA,he];simp
 have hmem:gl[i]∈gl:=Wf hil
 have hbad:resG gl[i] at'=false→¬gl.all (fun g=>resG g at')=true:=fun hr h=>by have:=Wk.1 h gl[i] hmem;rw[hr] at this;cases this
 rw[show za8 (zeF (tgB gl[i].blocks))=zoj gl[i] from rfl] at hca;clear hfi;generalize gl[i]=g at gi hca hrg hcl htk hmem hbad;generalize zoj g=cl at hca hrg hcl;(refine Gw6 @dT gi t2 c2 @zP @ue ?_;intros);refine zi (zf hca rfl) ?_;(refine Gw0 ?_;intros);refine zd (fun j:Nat=>([(6,.mp 0 0),(43,encL 2 G.cells gl),(44,.int .i64 gl.length),(45,.int .i64 i),(50,encL 1 cW cl),(51,.int .i64 cl.length),(52,.int .i64 j)],[(0,.row 3 (zoM at') 0)])) 1 (fun j=>j≤cl.length∧(cl.take j).all (fun a=>(idxA at' a).isSome)=true) (fun j=>cl.length - j) 0 ⟨We _,rfl⟩ (Ent.tab [(0,0,0)] [] rfl (Qae @ua) (Qae @ua)) ?_;rintro j ⟨hj,hej⟩ wf;clear wf
 unfold zfP;conv in dcC _ _=>cbv
 by_cases hjl:j < cl.length
 case neg =>
  obtain rfl:j=cl.length:=by omega
  rw[Wh,←hrg] at hej;rw[hej] at htk;(refine Qd ?_;intros)
  unfold zfQ;conv in dcC _ _=>cbv
  (refine Gw0 ?_;intros);exact⟨i+1,⟨hil,htk⟩,by omega,(Ent.tab [(0,0,0)] [] rfl (Qae @ua) (Qae @ua))⟩
 have gj:(cl.map cW).getD j []=[.int .u32 cl[j]]:=zn (f:=cW) hjl
 have hjk:(cl.take (j+1)).all (fun a=>(idxA at' a).isSome)=(idxA at' cl[j]).isSome:=by rw[Wt hjl,WA,hej];simp
 have hjm:cl[j]∈cl:=Wf hjl;generalize cl[j]=a at gj hjk hjm;have hmf:=zvK (a:=a) (l:=at'.zipIdx) (i:=0);rw[zzT] at hmf
 by_cases hw:a∈at'
 · rw[zxf,decide_eq_true hw] at hjk;obtain⟨q,hf⟩:=hmf.2 hw;(refine Gw4 @dT gj @zoM.eq_1 hf ?_;intros);rw[show [AV.int .i64 (at'.length:Int),.undef,.undef]::at'.zipIdx.map cU=zoM at' from rfl];exact⟨j+1,⟨hjl,hjk⟩,by omega,(Ent.tab [(0,0,0)] [] rfl (Qae @ua) (Qae @ua))⟩
 ·
  have hf:=hmf.1 hw
  have hr:resG g at'=false:=WU.2 fun h=>by rw[h] at hrg;have:=Wk.1 hrg.symm a hjm;rw[zxf,decide_eq_false hw] at this;cases this
  rw[if_neg (hbad hr)];(refine Gw5 @dT gj @zoM.eq_1 hf @zba.eq_1 ?_;intros);exact⟨_,.int _ _ _,rfl⟩
theorem unL_or{a b:List Int}:unL a b=svO (orI a b) 12:=by
 unfold unL svO
 congr 1
 refine Wx fun v _=>?_
 unfold orI;rw[WD,decide_eq_true_iff,Bool.or_eq_true]
 have h:∀l:List Int,hasI l v=true↔(v:Int)∈l:=fun l=>by
  by_cases hm:(v:Int)∈l
  · rw[zkD hm];simp[hm]
  · rw[zkC hm];simp[hm]
 rw[h,h]
theorem zFo{a b:List Int}{f:Nat→Bool}(ha:a=svO f 12):cmL a b=svO (andI a b) 12:=by
 have e:(Wc 12).filter (andI a b)=((Wc 12).filter f).filter fun(v:Nat)=>hasI b (v:Int):=by
  rw[List.filter_filter]
  refine Wx fun v hv=>?_
  unfold andI;rw[ha,ztx (Wr.1 hv),Bool.and_comm]
 unfold cmL
 conv=>lhs;rw[ha]
 unfold svO;rw[e,List.filter_map];rfl
def ptS(N:List Sgn)(n k:Nat):List (List AV):=(Wc n).map fun j=>if j < k then (N.getD j zbF).cells else [.nilsl,.nilsl,.nilsl]
theorem zft{N:List Sgn}{n k:Nat}:zr (ptS N n k):=zD fun j=>by split<;>rfl
theorem zBs{N:List Sgn}{n k:Nat}:(ptS N n k).length=n:=by simp[ptS]
theorem zDX{N:List Sgn}{n k:Nat}(hk:k < n):(ptS N n k).set k (N.getD k zbF).cells=ptS N n (k+1):=by
 apply WI
 · simp[ptS]
 ·
  intro j h1 h2;rw[List.getElem_set];simp only[ptS,WS,List.getElem_range]
  by_cases h:k=j
  · subst h;rw[if_pos rfl,if_pos (by omega)]
  ·
   rw[if_neg h]
   by_cases h3:j < k
   · rw[if_pos h3,if_pos (by omega)]
   · rw[if_neg h3,if_neg (by omega)]
theorem zAu{N:List Sgn}{n:Nat}(h:N.length=n):ptS N n n=N.map Sgn.cells:=by
 subst h;unfold ptS;rw[←zg1 (l:=N) (d:=zbF) (f:=Sgn.cells)]
 exact WP fun j hj=>if_pos (Wr.1 hj)
theorem Qaf{A0 p:Prop}(a0:A0)(h:A0→p:=by intro a0;(try simp only[evWB,Nat.reduceBEq,Nat.reduceAdd,Nat.reduceSub,Nat.reduceLeDiff,Nat.reduceLT,implies_true,a0])<;>(repeat' with_reducible apply And.intro)<;>first | (first|exact zb|exact RowV.of_flat zft;done)|exact fin6):p:=h a0
theorem pal_l3 (gl:List G) (at':List Int) (out:List Sgn) (hgl:gl.length≤1000) (hm:∀g∈gl,fewC g) (hck:∀g∈gl,zdU g=0) (hal:at'.length=gl.length) (hco:CanA gl.length out) (c:Int) (es:List TE) (ht:TabS out at' es) {Q:QT}
  (hfin:Q .normal [(0,encL 2 G.cells gl),(5,encL 1 cW at'),(6,encL 3 Sgn.cells out),(10,.mp 0 0),(11,.own 1 0 0 0 gl.length),(61,encL 2 G.cells gl),(62,.int .i64 gl.length),(63,.int .i64 gl.length),(64,.bool false)] [(0,.row 3 (tabM c es) 0),(1,.row 3 ((zkT gl at' out).map Sgn.cells) 0)] 2)
  {K:Kn} {H:AH} {nx:Nat} (hent:Ent 0 K H nx [(0,encL 2 G.cells gl),(5,encL 1 cW at'),(6,encL 3 Sgn.cells out),(10,.mp 0 0),(11,.own 1 0 0 0 gl.length),(61,encL 2 G.cells gl),(62,.int .i64 gl.length),(63,.int .i64 (0:Nat))] [(0,.row 3 (tabM c es) 0),(1,.row 3 (ptS (zkT gl at' out) gl.length 0) 0)] 2) :
  zno Tryz.prog 0 zgm (zd4 6 Q) K H nx:=by
 have hB:=hBig;have hNl:(zkT gl at' out).length=gl.length:=zuM.1
 have hNk:∀k (h:k < gl.length),(zkT gl at' out).getD k zbF=znD (out.getD k zbF) (sigG gl[k] out at'):=fun k h=>by unfold zkT;simp[Wo,h]
 generalize zkT gl at' out=N at hNl hNk hfin hent;have hol:=hco.1
 have hca:∀a,SgnLe 12 (zbc out at' a):=fun a=>by
  unfold zbc
  cases idxA at' a with
  | none=>exact⟨We _,We _,We _⟩
  |
   some k =>
   simp only
   by_cases hk:k < out.length
   ·
    have e:out.getD k zbF=out[k]:=by simp[Wo,hk]
    rw[e];have:=zrU (hco.2 _ (Wf hk));exact⟨this.1,this.2.1,this.2.2⟩
   ·
    have e:out.getD k zbF=zbF:=by simp[Wo,hk]
    rw[e];exact⟨We _,We _,We _⟩
 refine zd (fun k:Nat=>([(0,encL 2 G.cells gl),(5,encL 1 cW at'),(6,encL 3 Sgn.cells out),(10,.mp 0 0),(11,.own 1 0 0 0 gl.length),(61,encL 2 G.cells gl),(62,.int .i64 gl.length),(63,.int .i64 k)],[(0,.row 3 (tabM c es) 0),(1,.row 3 (ptS N gl.length k) 0)])) 2 (fun k=>k≤gl.length) (fun k=>gl.length - k) 0 (We _) hent ?_;clear hent;rintro k hk wf;clear wf
 unfold zgm;conv in dcC _ _=>cbv
 by_cases hkl:k < gl.length
 case neg =>
  obtain rfl:k=gl.length:=by omega
  rw[zAu hNl];(refine Qd ?_;intros);exact hfin
 have hko:k < out.length:=by omega
 have gg:(gl.map G.cells).getD k []=gl[k].cells:=zn (f:=G.cells) hkl
 have go:(out.map Sgn.cells).getD k []=(out.getD k zbF).cells:=by rw[zn (f:=Sgn.cells) hko];simp[Wo,hko]
 have hmem:gl[k]∈gl:=Wf hkl;have hokc:=zAI (hm _ hmem) (hck _ hmem);have hof:=zm7 gl[k] (hm _ hmem) hokc.1 hokc.2 (ztI (hck _ hmem)) out at' c es ht (fun a=>Wd (hca a).args (by decide)) (fun a=>Wd (hca a).res (by decide))
 have hok:CanS (out.getD k zbF):=by
  have e:out.getD k zbF=out[k]:=by simp[Wo,hko]
  rw[e];exact hco.2 _ (Wf hko)
 have hN1:=hNk k hkl;have hps:=zDX (N:=N) (n:=gl.length) hkl;have hsl:(sigG gl[k] out at').args.length≤12∧(sigG gl[k] out at').res.length≤12:=⟨by unfold sigG;rw[Wn];exact Wd (WG _ _) (by simp),by unfold sigG;rw[Wn];exact Wd (WG _ _) (by simp)⟩;clear hokc;generalize gl[k]=g at gg hof hN1 hsl;generalize sigG g out at'=sg at hof hN1 hsl;generalize out.getD k zbF=o at go hok hN1;rw[hN1] at hps;have hle:=zrU hok;obtain⟨oa,orr,os⟩:=o;obtain⟨sa,sr,ss⟩:=sg;simp only at hle hsl;have hu1:=zko oa sa (by rw[Wj];omega);have hu2:=zko orr sr (by rw[Wj];omega);have hu3:=zod os ss (by omega);obtain⟨fs,hfs⟩:=hok.sav;simp only at hfs;rw[unL_or] at hu1 hu2;rw[zFo hfs] at hu3;have t2:[g.cells.getD 0 .undef,g.cells.getD 1 .undef]=g.cells:=rfl;have c2:g.cells.length=2:=rfl
 have c0:∀l:List AV,(AV.agg l).cells=l:=fun _=>rfl
 have s0:∀l:List AV,(AV.agg l).solid=true:=fun _=>rfl
 simp only[Sgn.cells,znD] at go hof hps;(refine Gw6 @dT gg t2 c2 @zP @ue ?_;intros);refine zx [(0,0,0)] 1 _ hof rfl rfl (Qaf @ua) (Qaf @ua) ?_;rintro _ _ _ ⟨rfl,rfl,rfl⟩
 (repeat first|simp(disch:=try exact dis1) only[evD,Nat.reduceBEq,Nat.reduceAdd,Nat.reduceLeDiff,zkd,AV.ren,Wi,Wq,renE,c0,s0,go,zP,WV,za]|with_reducible first|intro _|refine aJ ?_)
 refine zG (zf hu1 rfl) ?_;(refine Gw4 go @zP @ue @ua ?_;intros);refine zG (zf hu2 rfl) ?_;(refine Gw4 go @zP @ue @ua ?_;intros);refine zG (zf hu3 rfl) ?_;simp only[za] at hps;(refine Gw6 go @zP @ue @ua @zBs hps ?_;intros);exact⟨k+1,by omega,by omega,(Ent.tab [(0,0,0),(1,1,0)] [] rfl (Qaf @ua) (Qaf @ua))⟩
theorem Qag{p:Prop}(h:p:=by(try simp only[evWB,Nat.reduceBEq,Nat.reduceAdd,Nat.reduceSub,Nat.reduceLeDiff,Nat.reduceLT,implies_true])<;>(repeat' with_reducible apply And.intro)<;>first | (first|exact zb|exact RowV.of_flat zft;done)|exact fin6):p:=h
theorem pal_k6 (gl:List G) (at':List Int) (hgl:gl.length≤1000) (hm:∀g∈gl,fewC g) (hck:∀g∈gl,zdU g=0) (hal:at'.length=gl.length) {Q:QT}
  {K:Kn} {H:AH} {nx:Nat} (hfin:∀c es,(allF gl at' (muA (zcY gl.length)+1) (zcY gl.length)).length=gl.length→Q .ret [(64,.bool false),(2,.own 1 0 0 0 gl.length),(3,.int .i64 0)] [(0,.row 3 (tabM c es) 0),(1,.row 3 ((allF gl at' (muA (zcY gl.length)+1) (zcY gl.length)).map Sgn.cells) 0)] 2)
  (hent:Ent 0 K H nx [(0,encL 2 G.cells gl),(5,encL 1 cW at'),(6,encL 3 Sgn.cells (zcY gl.length))] [] 0) :
  zno Tryz.prog 0 zgu (zd4 4 Q) K H nx:=by
 have hB:=hBig;generalize hR:allF gl at' (muA (zcY gl.length)+1) (zcY gl.length)=R at hfin;refine zd (fun s:List Sgn=>([(0,encL 2 G.cells gl),(5,encL 1 cW at'),(6,encL 3 Sgn.cells s)],[])) 0 (fun s=>CanA gl.length s∧∃m,muA s < m∧allF gl at' m s=R) (fun s=>muA s) (zcY gl.length) ⟨zya _,_,WO _,hR⟩ hent ?_;clear hent hR;rintro out ⟨hco,m,hm1,hFF⟩ wf;clear wf;obtain⟨m,rfl⟩:∃m',m=m'+1:=⟨m - 1,by omega⟩;rw[allF] at hFF;have hmn:=zEt (at':=at') hco;have hcn:=zuM (gl:=gl) (at':=at') (out:=out);have hol:=hco.1
 have hsg:∀s∈out,SgnLe 1000000 s:=fun s h=>by have:=zrU (hco.2 s h);exact⟨by omega,by omega,by omega⟩
 unfold zgu;conv in dcC _ _=>cbv
 (refine Gw0 ?_;intros);refine zx [] 0 _ (ze5 out at' (by omega) (by omega)) rfl rfl Qag Qag ?_;rintro _ _ _ ⟨rfl,rfl,c,es,rfl,ht⟩;have e0:((gl.length:Nat):Int).toNat=gl.length:=WV _
 have hrep:Wg gl.length [AV.nilsl,.nilsl,.nilsl]=ptS (zkT gl at' out) gl.length 0:=by
  apply WI
  · simp[ptS]
  · intro k h1 h2;simp[ptS]
 (repeat first|simp(disch:=try exact dis1) only[evD,Nat.reduceBEq,Nat.reduceAdd,Nat.reduceLeDiff,zkd,AV.ren,e0,hrep]|with_reducible first|intro _|refine aJ ?_)
 (repeat' with_reducible apply Wa)
 all_goals try omega
 refine pal_l3 gl at' out hgl hm hck hal hco c es ht ?_ (Ent.tab [(0,0,0),(1,1,0)] [] rfl (Qaf @ua) (Qaf @ua))
 have hsn:∀s∈zkT gl at' out,SgnLe 1000000 s:=fun s h=>by have:=zrU (hcn.2 s h);exact⟨by omega,by omega,by omega⟩
 have heq:=znA (zkT gl at' out) out (by rw[hcn.1];omega) (by omega) hsn hsg;generalize zkT gl at' out=N at hFF hmn hcn hsn heq ⊢;have hNl:=hcn.1;(refine Gw0 ?_;intros);unfold zjy;(refine Gw0 ?_;intros);refine zi (zaH (D:=allR) heq (.cons (ztW hNl trivial rfl (by omega)) (.cons (zai rfl) (.cons (.fn _ _ _ _ rfl fun i a b h _=>by cases h) .nil))) (.inl rfl)) ?_
 by_cases hq:eqSL N out=true
 ·
  rw[if_pos hq] at hFF;have hNo:N=out:=zqo (of_decide_eq_true hq);(refine Gw1 hq ?_;intros)
  have hNR:N=R:=by rw[hNo];exact hFF
  rw[hNR];exact hfin c es (by rw[←hNR];exact hNl)
 ·
  rw[if_neg hq] at hFF;have hqf:eqSL N out=false:=WU.2 hq
  have hlt:muA N < muA out:=by
   rcases hmn with e|e
   · exact absurd (ztE e) hq
   · exact e
  (refine Gw1 hqf ?_;intros);exact⟨N,⟨hcn,m,by omega,hFF⟩,hlt,(Ent.tab [] [1] rfl (by((try simp only[evWB,Nat.reduceBEq,Nat.reduceAdd,Nat.reduceSub,Nat.reduceLeDiff,Nat.reduceLT,implies_true,za])<;>(repeat' with_reducible apply Wa)<;>first | (exact ztW hNl rfl rfl (by omega);done)|exact fin6)) (by((try simp only[evWB,Nat.reduceBEq,Nat.reduceAdd,Nat.reduceSub,Nat.reduceLeDiff,Nat.reduceLT,implies_true,za])<;>(repeat' with_reducible apply Wa)<;>first | (exact ztW hNl rfl rfl (by omega);done)|exact fin6)))⟩
end Go.Ab
