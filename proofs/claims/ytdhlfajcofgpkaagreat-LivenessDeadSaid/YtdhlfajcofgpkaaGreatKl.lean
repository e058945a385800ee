/-
  Part 12 of the proof: how the calls of this program run, over values instead of memory, and what each function computes.
-/
import Derived.Test.YtdhlfajcofgpkaaGreatKk
set_option maxRecDepth 100000
set_option linter.unusedVariables false
set_option linter.unusedSimpArgs false
set_option linter.unnecessarySimpa false
set_option linter.unusedSectionVars false
open List renaming getD_eq_getElem?_getD→Wa,getElem?_eq_getElem→Wd,getElem_mem→Wg,drop_eq_getElem_cons→Wh,map_cons→Wi,drop_of_length_le→Wj,length_append→Wl,all_cons→Wq,mem_cons→Wt,sum_cons→Wu,length_cons→Wv,length_take→WB,take_of_length_le→WC,all_nil→WD,getD_cons_zero→WF,getD_cons_succ→WG,all_eq_true→WH,mem_append_left→WI,length_map→WK,length_singleton→WL,map_append→WM,map_nil→WN,mem_map→WO,mem_singleton→WP,mem_append→WQ,mem_append_right→WR,flatMap_cons→WS,getElem_cons_zero→WT,ext_getElem→WW,length_range→WX,getElem_map→WY,getElem_range→WZ,drop_length→W0,getElem?_set_ne→W6,getElem?_append_right→W7,getElem?_append_left→W8,length_mapIdx→W9,getLast?_eq_getElem?→Waa,length_drop→Wab
open Nat renaming zero_le→Wb,blt_eq→Wf,le_refl→Wk,blt→Wn,le_trans→Ww,zero_lt_succ→WU,succ_lt_succ→WV,lt_of_lt_of_le→W3,le_add_right→W4
open Or renaming inr→Wc,inl→Wm
open And renaming intro→We
open Bool renaming false_and→Wo,true_and→Wp,and_eq_true→Wr,and_self→WE,or_eq_false_iff→W5
open Option renaming map_eq_some_iff→Ws,getD_some→WA
open Int renaming tmod_nonneg→Wx,tmod_lt_of_pos→Wy,toNat_natCast→Wz
open Option.some renaming injEq→WJ
namespace Go.Ab
open Go.RowKit Go.Proofs
structure FewD (exit:List Int) (bl:List Bl):Prop where
 sz:∀b∈bl,∀s∈b.stmts,zF s.e≤100000∧s.cases.length≤100000∧(s.op=1→s.e.length=1)
 len:bl.length≤1000000
 cnt:zJ bl≤1000
 uni:(univ exit bl).length+exit.length≤400000
structure RunR (exit:List Int) (bl0 R x:List Bl) (k:Nat):Prop where
 few:FewD exit x
 len:x.length=bl0.length
 cnt:k+zJ x≤zJ bl0
 go:∀j,zJ x < j→deadR exit j x=R
theorem Qai {p q:Prop}(k:q)(h:Im q p:=by(repeat first|simp(disch:=try exact dis1) only[evD,Nat.reduceBEq,Nat.reduceAdd,Nat.reduceLeDiff,dT,dF,zdU] | ((with_reducible apply Im.i);intro _) | ((with_reducible apply Im.a);omega));exact Im.r):p:=h k
theorem Qs {p q:Prop}(k:q)(h:Im q p:=by(repeat first|simp(disch:=try exact dis1) only[evD,Nat.reduceBEq,Nat.reduceAdd,Nat.reduceLeDiff,fldP,dT,dF] | ((with_reducible apply Im.i);intro _) | ((with_reducible apply Im.a);omega));exact Im.r):p:=h k
theorem Qaj {p q:Prop}(k:q)(h:Im q p:=by(repeat first|simp(disch:=try exact dis1) only[evD,Nat.reduceBEq,Nat.reduceAdd,Nat.reduceLeDiff,zdU] | ((with_reducible apply Im.i);intro _) | ((with_reducible apply Im.a);omega));exact Im.r):p:=h k
theorem zs0:∀(k:Nat) (e:Ex) (m n:Int),zbq e≤k → -1000≤m→m≤1000 → -1≤n→n≤30000→zu Tryz.prog ziz [.agg (encX e),.int .i64 m,.int .i64 n] (·=.int .i64 (zha e m n)):=by
 intro k
 induction k with
 | zero=>intro e m n h;obtain⟨_,_,_,_,l⟩:=e;rw[zbq] at h;omega
 | succ k ih =>
 intro e m n hk h1 h2 h3 h4;obtain⟨op,nn,v,w,l⟩:=e;refine fn_x zvv rfl ?_;unfold zn2;have hB:=hBig;rw[zbq] at hk;have hR:=zg0 (.mk op nn v w l) m n h3;rw[zha] at hR ⊢;generalize hE:encX (.mk op nn v w l)=E;rw[zbo] at hE;subst hE
 by_cases c1:m < 1
 ·
  rw[if_pos (.inl c1)]
  (repeat first|simp(disch:=try exact dis1) only[evD,Nat.reduceBEq,Nat.reduceAdd,Nat.reduceLeDiff,dT,zdU]|with_reducible first|intro _|refine aJ ?_)
  exact⟨_,.int _ _ _,rfl⟩
 by_cases c2:n < 1
 ·
  rw[if_pos (.inr (.inl c2))]
  (refine Qai ?_;intros)
  exact⟨_,.int _ _ _,rfl⟩
 by_cases c3:4 < l.length
 ·
  rw[if_pos (.inr (.inr c3))]
  (refine Qai ?_;intros)
  exact⟨_,.int _ _ _,rfl⟩
 rw[if_neg (by omega)] at hR ⊢
 (refine Qg ?_;intros)
 generalize hG:zbx l (m - 1) (n - 1)=R at hR ⊢;refine zk (fun s:Nat × Int=>([(1,.int .i64 m),(3,encP 5 [.int .i64 op,.int .u32 nn,.int .i64 v,.int .i64 w,encL 5 encX l]),(7,.int .i64 s.2),(8,.int .i64 s.1)],[])) 0 (fun s=>s.1≤l.length ∧ -1≤s.2∧s.2≤n∧zbx (l.drop s.1) (m - 1) s.2=R) (fun s=>l.length - s.1) (0,n - 1) ⟨Wb _,by simp only;omega,by simp only;omega,hG⟩ (Ent.keep rfl fin5) ?_;rintro⟨i,x⟩ ⟨hi,hx1,hx2,hgo⟩ wf;simp only at hi hx1 hx2 hgo;unfold zj9
 by_cases hl:i < l.length
 ·
  by_cases hx:0≤x
  ·
   rw[zoh hl hx] at hgo;have hm:=zcK (Wg hl);have hr:=zg0 l[i] (m - 1) x hx1
   (repeat first|simp(disch:=try exact dis1) only[evD,Nat.reduceBEq,Nat.reduceAdd,Nat.reduceLeDiff,fldP,dT,dF,zq hl,zaI,zai]|with_reducible first|intro _|refine aJ ?_)
   refine ze (zd (ih l[i] (m - 1) x (by omega) (by omega) (by omega) (by omega) (by omega)) (flX rfl)) ?_
   (refine Qa ?_;intros)
   exact⟨(i+1,zha l[i] (m - 1) x),⟨by simp only;omega,by simp only;omega,by simp only;omega,hgo⟩,by simp only;omega,Ent.keep rfl fin5⟩
  ·
   rw[zlZ (by omega)] at hgo;subst hgo
   (refine Qs ?_;intros)
   unfold zgG
   (refine Qaj ?_;intros)
   exact⟨_,.int _ _ _,rfl⟩
 ·
  rw[Wj (by omega),zbx] at hgo;subst hgo
  (refine Qs ?_;intros)
  unfold zgG
  (refine Qaj ?_;intros)
  exact⟨_,.int _ _ _,rfl⟩
def zwP (s:St) (n:Int):Int:=if 4 < s.e.length∨100 < s.cases.length then -1 else zbx s.e 8 n
def zgM:List St→Int→Int
 | [],n=>n
 | s::l,n=>if n < 0 then n else zgM l (zwP s n)
def zxM (b:Bl) (n:Int):Int:=if 1100 < b.stmts.length then -1 else zgM b.stmts n
def zgn:List Bl→Int→Int
 | [],n=>n
 | b::l,n=>if n < 0 then n else zgn l (zxM b n)
def zut (g:G):Bool:=decide (g.blocks.length≤300)&&decide (0≤zgn g.blocks 20000)
def zu6 (g:G) (exit:List Int):Bool:=decide (g.blocks.length≤12)&&(decide (exit.length≤20)&&(zut g&&g.blocks.all fun b=>decide (b.stmts.length≤12)))
theorem zxV {l:List St} {i:Nat} {n:Int} (h:i < l.length) (hn:0≤n):zgM (l.drop i) n=zgM (l.drop (i+1)) (zwP l[i] n):=by rw[Wh h,zgM,if_neg (by omega)]
theorem zkV {l:List St} {n:Int} (hn:n < 0):zgM l n=n:=by
 cases l with
 | nil=>rw[zgM]
 | cons a l=>rw[zgM,if_pos hn]
theorem zxL {l:List Bl} {i:Nat} {n:Int} (h:i < l.length) (hn:0≤n):zgn (l.drop i) n=zgn (l.drop (i+1)) (zxM l[i] n):=by rw[Wh h,zgn,if_neg (by omega)]
theorem zny {l:List Bl} {n:Int} (hn:n < 0):zgn l n=n:=by
 cases l with
 | nil=>rw[zgn]
 | cons a l=>rw[zgn,if_pos hn]
theorem znj (g:G):zu Tryz.prog zfh [.agg g.cells,.int .i64 8] (·=.bool (zut g)):=by
 refine fn_x znN rfl ?_;unfold zh0 zut;have hB:=hBig;obtain⟨ad,bl⟩:=g;simp only[G.cells]
 by_cases h300:300 < bl.length
 ·
  rw[decide_eq_false (by omega),Wo]
  (repeat first|simp(disch:=try exact dis1) only[evD,Nat.reduceBEq,Nat.reduceAdd,Nat.reduceLeDiff,fldP,dT,zaS]|with_reducible first|intro _|refine aJ ?_)
  exact⟨_,.bool _ _,rfl⟩
 rw[decide_eq_true (by omega),Wp];generalize hR:zgn bl 20000=R
 have fin:R < 0→decide (0≤R)=false:=fun h=>decide_eq_false (by omega)
 (refine Qh ?_;intros)
 refine zk (fun a:Nat × Int=>([(1,.int .i64 8),(2,encP 2 [.int .u32 ad,encL 2 Bl.cells bl]),(5,.int .i64 a.2),(6,.int .i64 a.1)],[])) 0 (fun a=>a.1≤bl.length∧0≤a.2∧a.2≤20000∧zgn (bl.drop a.1) a.2=R) (fun a=>bl.length - a.1) (0,20000) ⟨Wb _,by simp only;omega,by simp only;omega,hR⟩ (Ent.keep rfl fin5) ?_;rintro⟨i,n⟩ ⟨hi,hn1,hn2,hgo⟩ wf;simp only at hi hn1 hn2 hgo;unfold zft
 by_cases hil:i < bl.length
 case neg =>
  rw[Wj (by omega),zgn] at hgo;subst hgo;rw[decide_eq_true hn1]
  (refine Qh ?_;intros)
  unfold zfN
  (repeat first|simp(disch:=try exact dis1) only[evD,Nat.reduceBEq,Nat.reduceAdd,Nat.reduceLeDiff,zaS]|with_reducible first|intro _|refine aJ ?_)
  exact⟨_,.bool _ _,rfl⟩
 have hg:(bl.map Bl.cells).getD i []=[.int .u32 bl[i].addr,encL 8 St.cells bl[i].stmts]:=zq hil;rw[zxL hil hn1] at hgo;unfold zxM at hgo;generalize bl[i].addr=ad2 at hg;generalize bl[i].stmts=m at hg hgo
 by_cases h11:1100 < m.length
 ·
  rw[if_pos h11,zny (by omega)] at hgo;rw[fin (by omega)]
  (repeat first|simp(disch:=try exact dis1) only[evD,Nat.reduceBEq,Nat.reduceAdd,Nat.reduceLeDiff,fldP,dT,hg,zaS]|with_reducible first|intro _|refine aJ ?_)
  exact⟨_,.bool _ _,rfl⟩
 rw[if_neg h11] at hgo
 (repeat first|simp(disch:=try exact dis1) only[evD,Nat.reduceBEq,Nat.reduceAdd,Nat.reduceLeDiff,fldP,dT,dF,hg]|with_reducible first|intro _|refine aJ ?_)
 generalize hM:zgM m n=M at hgo
 have hMR:M < 0→R < 0:=fun h=>by rw[zny h] at hgo;omega
 refine zk (fun a:Nat × Int=>([(1,.int .i64 8),(2,encP 2 [.int .u32 ad,encL 2 Bl.cells bl]),(5,.int .i64 a.2),(6,.int .i64 i),(7,.int .i64 a.1)],[])) 0 (fun a=>a.1≤m.length∧0≤a.2∧a.2≤20000∧zgM (m.drop a.1) a.2=M) (fun a=>m.length - a.1) (0,n) ⟨Wb _,hn1,hn2,hM⟩ (Ent.keep rfl fin5) ?_;rintro⟨k,n2⟩ ⟨hk,hk1,hk2,hgo2⟩ wf2;simp only at hk hk1 hk2 hgo2;unfold zfA
 by_cases hkl:k < m.length
 case neg =>
  rw[Wj (by omega),zgM] at hgo2;subst hgo2
  (repeat first|simp(disch:=try exact dis1) only[evD,Nat.reduceBEq,Nat.reduceAdd,Nat.reduceLeDiff,fldP,dF,hg]|with_reducible first|intro _|refine aJ ?_)
  unfold zfw
  (refine Qa ?_;intros)
  exact⟨(i+1,n2),⟨by simp only;omega,hk1,hk2,hgo⟩,by simp only;omega,Ent.keep rfl fin5⟩
 have hgm:=zq (f:=St.cells) (d:=[]) hkl;rw[zxV hkl hk1] at hgo2;unfold zwP at hgo2;generalize m[k]=s at hgm hgo2;obtain⟨op,var,width,next,els,tgt,e,cs⟩:=s;simp only at hgo2;simp only[St.cells] at hgm
 by_cases h4:4 < e.length
 ·
  rw[if_pos (.inl h4),zkV (by omega)] at hgo2;have:=hMR (by omega);rw[fin this]
  (repeat first|simp(disch:=try exact dis1) only[evD,Nat.reduceBEq,Nat.reduceAdd,Nat.reduceLeDiff,fldP,dT,hg,hgm,zaS]|with_reducible first|intro _|refine aJ ?_)
  exact⟨_,.bool _ _,rfl⟩
 by_cases h100:100 < cs.length
 ·
  rw[if_pos (.inr h100),zkV (by omega)] at hgo2;have:=hMR (by omega);rw[fin this]
  (repeat first|simp(disch:=try exact dis1) only[evD,Nat.reduceBEq,Nat.reduceAdd,Nat.reduceLeDiff,fldP,dT,dF,hg,hgm,za,zaS]|with_reducible first|intro _|refine aJ ?_)
  exact⟨_,.bool _ _,rfl⟩
 rw[if_neg (by omega)] at hgo2;generalize hE:zbx e 8 n2=E at hgo2
 have hEM:E < 0→M < 0:=fun h=>by rw[zkV h] at hgo2;omega
 (repeat first|simp(disch:=try exact dis1) only[evD,Nat.reduceBEq,Nat.reduceAdd,Nat.reduceLeDiff,fldP,dT,dF,hg,hgm,za]|with_reducible first|intro _|refine aJ ?_)
 refine zk (fun a:Nat × Int=>([(1,.int .i64 8),(2,encP 2 [.int .u32 ad,encL 2 Bl.cells bl]),(5,.int .i64 a.2),(6,.int .i64 i),(7,.int .i64 k),(8,.ptr 0 0 0 0 0),(9,.int .i64 a.1)],[(0,.row 8 [[.int .i64 op,.int .i64 var,.int .i64 width,.int .i64 next,.int .i64 els,.int .u32 tgt,encL 5 encX e,za cs]] 0)])) 1 (fun a=>a.1≤e.length∧0≤a.2∧a.2≤20000∧zbx (e.drop a.1) 8 a.2=E) (fun a=>e.length - a.1) (0,n2) ⟨Wb _,hk1,hk2,hE⟩ (Ent.tab [(0,0,0)] [] rfl Qba Qba) ?_;rintro⟨j,n3⟩ ⟨hj,hj1,hj2,hgo3⟩ wf3;simp only at hj hj1 hj2 hgo3;unfold zfz
 by_cases hjl:j < e.length
 case neg =>
  rw[Wj (by omega),zbx] at hgo3;subst hgo3
  (repeat first|simp(disch:=try exact dis1) only[evD,Nat.reduceBEq,Nat.reduceAdd,Nat.reduceLeDiff,fldP,dF,hg]|with_reducible first|intro _|refine aJ ?_)
  unfold zfE
  (refine Qa ?_;intros)
  exact⟨(k+1,n3),⟨by simp only;omega,hj1,hj2,hgo2⟩,by simp only;omega,(Ent.tab [] [] rfl Qba Qba)⟩
 rw[zoh hjl hj1] at hgo3;have hr:=zg0 e[j] 8 n3 (by omega)
 (repeat first|simp(disch:=try exact dis1) only[evD,Nat.reduceBEq,Nat.reduceAdd,Nat.reduceLeDiff,fldP,dT,dF,zq hjl,zaI,zai,za]|with_reducible first|intro _|refine aJ ?_)
 refine ze (zd (zs0 (zbq e[j]) e[j] 8 n3 (Wk _) (by omega) (by omega) (by omega) (by omega)) (flX rfl)) ?_
 by_cases hx:zha e[j] 8 n3 < 0
 ·
  rw[zlZ hx] at hgo3;have:=hMR (hEM (by omega));rw[fin this]
  (repeat first|simp(disch:=try exact dis1) only[evD,Nat.reduceBEq,Nat.reduceAdd,Nat.reduceLeDiff,dT,zaS]|with_reducible first|intro _|refine aJ ?_)
  exact⟨_,.bool _ _,rfl⟩
 ·
  (refine Qg ?_;intros)
  exact⟨(j+1,zha e[j] 8 n3),⟨by simp only;omega,by simp only;omega,by simp only;omega,hgo3⟩,by simp only;omega,(Ent.tab [(0,0,0)] [] rfl Qba Qba)⟩
theorem Qak {p q:Prop}(k:q)(h:Im q p:=by(repeat first|simp(disch:=try exact dis1) only[evD,Nat.reduceBEq,Nat.reduceAdd,Nat.reduceLeDiff,zdS] | ((with_reducible apply Im.i);intro _) | ((with_reducible apply Im.a);omega));exact Im.r):p:=h k
theorem zub (g:G) (exit:List Int):zu Tryz.prog zlL [.agg g.cells,za exit] (·=.bool (zu6 g exit)):=by
 refine fn_x zt2 rfl ?_;unfold zoe zu6;have hB:=hBig;have hsg:=znj g;generalize zut g=sg at hsg;obtain⟨ad,bl⟩:=g;simp only[G.cells] at hsg ⊢
 by_cases h12:12 < bl.length
 ·
  rw[decide_eq_false (by omega),Wo]
  (repeat first|simp(disch:=try exact dis1) only[evD,Nat.reduceBEq,Nat.reduceAdd,Nat.reduceLeDiff,fldP,dT,za,zdS]|with_reducible first|intro _|refine aJ ?_)
  exact⟨_,.bool _ _,rfl⟩
 rw[decide_eq_true (by omega),Wp]
 by_cases h20:20 < exit.length
 ·
  rw[decide_eq_false (by omega),Wo]
  (repeat first|simp(disch:=try exact dis1) only[evD,Nat.reduceBEq,Nat.reduceAdd,Nat.reduceLeDiff,fldP,dT,dF,za,zdS]|with_reducible first|intro _|refine aJ ?_)
  exact⟨_,.bool _ _,rfl⟩
 rw[decide_eq_true (by omega),Wp]
 (repeat first|simp(disch:=try exact dis1) only[evD,Nat.reduceBEq,Nat.reduceAdd,Nat.reduceLeDiff,fldP,dT,dF,za,zac,tab,WF,WG]|with_reducible first|intro _|refine aJ ?_)
 refine ze (zd hsg rfl) ?_
 cases sg with
 |
  false =>
  rw[Wo]
  (refine Qak ?_;intros)
  exact⟨_,.bool _ _,rfl⟩
 | true =>
 rw[Wp];generalize hR:(bl.all fun b=>decide (b.stmts.length≤12))=R
 (refine Ql ?_;intros)
 refine zk (fun i:Nat=>([(2,encP 2 [.int .u32 ad,encL 2 Bl.cells bl]),(5,.int .i64 i)],[])) 0 (fun i=>i≤bl.length∧((bl.drop i).all fun b=>decide (b.stmts.length≤12))=R) (fun i=>bl.length - i) 0 ⟨Wb _,hR⟩ (Ent.keep rfl fin5) ?_;rintro i ⟨hi,hgo⟩ wf;unfold zjI
 by_cases hil:i < bl.length
 ·
  have hg:(bl.map Bl.cells).getD i []=[.int .u32 bl[i].addr,encL 8 St.cells bl[i].stmts]:=zq hil;rw[Wh hil,Wq] at hgo
  by_cases h:12 < bl[i].stmts.length
  ·
   rw[decide_eq_false (by omega),Wo] at hgo;rw[←hgo]
   (repeat first|simp(disch:=try exact dis1) only[evD,Nat.reduceBEq,Nat.reduceAdd,Nat.reduceLeDiff,fldP,dT,hg,zdS]|with_reducible first|intro _|refine aJ ?_)
   exact⟨_,.bool _ _,rfl⟩
  ·
   rw[decide_eq_true (by omega),Wp] at hgo
   (repeat first|simp(disch:=try exact dis1) only[evD,Nat.reduceBEq,Nat.reduceAdd,Nat.reduceLeDiff,fldP,dT,dF,hg]|with_reducible first|intro _|refine aJ ?_)
   exact⟨i+1,⟨by omega,hgo⟩,by omega,Ent.keep rfl fin5⟩
 ·
  rw[Wj (by omega)] at hgo;rw[←hgo]
  (refine Qh ?_;intros)
  unfold zjV
  (refine Qak ?_;intros)
  exact⟨_,.bool _ _,rfl⟩
mutual
theorem zBz:∀(e:Ex) (m n:Int),0≤zha e m n→(zbq e:Int)+zha e m n≤n
 |
  .mk _ _ _ _ l,m,n,h=>by
  rw[zha] at h ⊢;split
  · rename_i hc;rw[if_pos hc] at h;omega
  · rename_i hc;rw[if_neg hc] at h;have:=znZ l (m - 1) (n - 1) (by omega) h;rw[zbq];omega
theorem znZ:∀(l:List Ex) (m n:Int),0≤n→0≤zbx l m n→(zF l:Int)+zbx l m n≤n
 | [],m,n,_,h=>by rw[zbx] at h ⊢;rw[zF];omega
 |
  e::l,m,n,hn,h=>by
  rw[zbx,if_neg (by omega)] at h ⊢
  by_cases h0:zha e m n < 0
  · rw[zlZ h0] at h;omega
  · have h1:=zBz e m n (by omega);have h2:=znZ l m _ (by omega) h;rw[zF];omega
end
theorem zpn:∀ {l:List St} {n:Int},0≤n→0≤zgM l n→(zbm 0 l:Int)+zgM l n≤n∧∀s∈l,s.e.length≤4∧s.cases.length≤100
 |
  [],n,hn,h=>by
  rw[zgM] at h ⊢;exact⟨by show ((0:Nat):Int)+n≤n;omega,fun s hs=>by cases hs⟩
 |
  s::l,n,hn,h=>by
  rw[zgM,if_neg (by omega)] at h ⊢
  by_cases h0:zwP s n < 0
  · rw[zkV h0] at h;omega
  ·
   obtain⟨h2,h3⟩:=zpn (l:=l) (n:=zwP s n) (by omega) h
   have e:(zbm 0 (s::l):Int)=zF s.e+zbm 0 l:=by show ((zF s.e+0+zbm 0 l:Nat):Int)=_;omega
   unfold zwP at h0 h2;split at h0
   · omega
   ·
    rename_i hc;rw[if_neg hc] at h2;have h4:=znZ s.e 8 n hn (by omega);refine⟨?_,fun t ht=>?_⟩
    · rw[e];unfold zwP;rw[if_neg hc];omega
    ·
     rcases Wt.1 ht with rfl|ht
     · omega
     · exact h3 t ht
def zjz (bl:List Bl):Nat:=(bl.map fun b=>zbm 0 b.stmts).sum
theorem zps:∀ {l:List Bl} {n:Int},0≤n→0≤zgn l n→(zjz l:Int)+zgn l n≤n∧∀b∈l,∀s∈b.stmts,s.e.length≤4∧s.cases.length≤100
 |
  [],n,hn,h=>by
  rw[zgn] at h ⊢;exact⟨by show ((0:Nat):Int)+n≤n;omega,fun s hs=>by cases hs⟩
 |
  b::l,n,hn,h=>by
  rw[zgn,if_neg (by omega)] at h ⊢
  by_cases h0:zxM b n < 0
  · rw[zny h0] at h;omega
  ·
   obtain⟨h2,h3⟩:=zps (l:=l) (n:=zxM b n) (by omega) h
   have e:(zjz (b::l):Int)=zbm 0 b.stmts+zjz l:=by unfold zjz;rw[Wi,Wu];omega
   unfold zxM at h0 h2;split at h0
   · omega
   ·
    rename_i hc;rw[if_neg hc] at h2;obtain⟨h4,h5⟩:=zpn (l:=b.stmts) hn (by omega);refine⟨?_,fun t ht=>?_⟩
    · rw[e];unfold zxM;rw[if_neg hc];omega
    ·
     rcases Wt.1 ht with rfl|ht
     · exact h5
     · exact h3 t ht
theorem zpw:∀ {bl:List Bl} {b:Bl},b∈bl→zbm 0 b.stmts≤zjz bl
 | [],b,h=>by cases h
 |
  x::l,b,h=>by
  have e:zjz (x::l)=zbm 0 x.stmts+zjz l:=by unfold zjz;rw[Wi,Wu]
  rcases Wt.1 h with rfl|h
  · omega
  · have:=zpw h;omega
theorem zAY {k:Nat}:∀ {l:List St},zbm k l=zbm 0 l+k * l.length
 | []=>by simp[zbm]
 |
  s::l=>by
  have e1:zbm k (s::l)=zF s.e+k+zbm k l:=rfl;have e2:zbm 0 (s::l)=zF s.e+0+zbm 0 l:=rfl;rw[e1,e2,zAY (l:=l),Wv,Nat.mul_succ];omega
theorem ztZ:∀ {l:List St} {s:St},s∈l→zF s.e≤zbm 0 l
 | [],s,h=>by cases h
 |
  x::l,s,h=>by
  have e:zbm 0 (x::l)=zF x.e+0+zbm 0 l:=rfl
  rcases Wt.1 h with rfl|h
  · omega
  · have:=ztZ h;omega
theorem zu1:∀ {l:List St},(l.flatMap zfm).length≤zbm 0 l
 | []=>by simp[zbm]
 |
  s::l=>by
  have e:zbm 0 (s::l)=zF s.e+0+zbm 0 l:=rfl;have:=zu1 (l:=l);have:=zpp s;rw[WS,Wl];omega
theorem zvW {exit:List Int}:∀ {bl:List Bl},(univ exit bl).length≤exit.length+zjz bl
 | []=>by simp[univ,zjz]
 |
  b::l=>by
  have h:=zvW (exit:=exit) (bl:=l)
  have e:zjz (b::l)=zbm 0 b.stmts+zjz l:=by unfold zjz;rw[Wi,Wu]
  have:=zu1 (l:=b.stmts);unfold univ at h ⊢;rw[Wl] at h ⊢;rw[WS,Wl];omega
theorem zuw {m:Nat}:∀ {l:List Bl},(∀b∈l,b.stmts.length≤m)→zJ l≤l.length * m
 | [],_=>by simp[zJ]
 |
  b::l,h=>by
  have h1:=zuw (l:=l) fun c hc=>h c (List.mem_cons_of_mem _ hc)
  have h2:=h b (by simp);simp only[zJ,Wi,Wu,Wv] at h1 ⊢;rw[Nat.succ_mul];omega
structure SmallP (g:G):Prop where
 blocks:g.blocks.length≤12
 stmts:∀b∈g.blocks,b.stmts.length≤12
 parts:∀b∈g.blocks,∀s∈b.stmts,s.e.length≤4∧s.cases.length≤100
 size:zjz g.blocks≤20000
theorem zpe {g:G} {exit:List Int} (h:zu6 g exit=true):SmallP g∧exit.length≤20:=by unfold zu6 zut at h;simp only[Wr,decide_eq_true_eq,WH] at h;obtain⟨h1,h2,⟨_,h3⟩,h4⟩:=h;obtain⟨h5,h6⟩:=zps (n:=20000) (by omega) h3;exact⟨⟨h1,h4,h6,by omega⟩,h2⟩
theorem SmallP.few {g:G} (h:SmallP g):fewB g:=⟨by have:=h.blocks;omega,fun b hb=>by have:=h.stmts b hb;omega⟩
theorem SmallP.cnt {g:G} (h:SmallP g):zJ g.blocks≤144:=by have h1:=zuw h.stmts;have h2:=h.blocks;have:g.blocks.length * 12≤12 * 12:=Nat.mul_le_mul_right 12 h2;omega
theorem SmallP.good {g:G} {exit:List Int} (h:SmallP g) (he:exit.length≤40):GoodB (univ exit g.blocks) exit g.blocks:=by
 have hs:=h.size;have hu:=zvW (exit:=exit) (bl:=g.blocks);refine⟨fun x hx=>WI _ hx,fun b hb s hs=>zA1 hb hs,fun b hb s hm=>?_,fun b hb=>?_,by have:=h.cnt;omega,by have:=h.blocks;omega⟩
 · have h1:=ztZ hm;have h2:=zpw hb;have h3:=(h.parts b hb s hm).2;exact⟨by omega,by omega⟩
 · have h1:=zAY (k:=exit.length) (l:=b.stmts);have h2:=zpw hb;have h3:=h.stmts b hb;have h4:exit.length * b.stmts.length≤40 * 12:=Nat.mul_le_mul he h3;omega
theorem SmallP.sub {g:G} (h:SmallP g) {x:List Bl} (k:SubB x g.blocks):SmallP ⟨g.addr,x⟩:=by
 refine⟨by have:=k.1;have:=h.blocks;simp only;omega,fun b hb=>?_,fun b hb s hs=>?_,?_⟩
 · obtain⟨y,hy,_,h2⟩:=k.mem hb;exact Ww h2.length_le (h.stmts y hy)
 · obtain⟨y,hy,_,h2⟩:=k.mem hb;exact h.parts y hy s (h2.mem hs)
 ·
  refine Ww ?_ h.size
  have:∀ {a b:List Bl},SubB a b→zjz a≤zjz b:=by
   intro a
   induction a with
   | nil=>intro b _;simp[zjz]
   |
    cons x a ih =>
    intro b h
    cases b with
    | nil=>have:=h.1;simp at this
    |
     cons y b =>
     obtain⟨_,hs⟩:=h.2 0 (by simp) (by simp);have h2:SubB a b:=⟨by have:=h.1;simpa using this,fun i h1 h2=>h.2 (i+1) (by simpa using h1) (by simpa using h2)⟩;have h3:=ih h2;simp only[WT] at hs;have:=zvw (k:=0) hs;simp only[zjz,Wi,Wu] at h3 ⊢;omega
  exact this k
theorem zql (a:Int):zu Tryz.prog zhE [.int .u32 a] (·=.bool (decide (2147483648≤a))):=by
 refine fn_x zqT rfl ?_;unfold zkc;have hB:=hBig
 (repeat first|simp(disch:=try exact dis1) only[evD,Nat.reduceBEq,Nat.reduceAdd,Nat.reduceLeDiff,zjB]|with_reducible first|intro _|refine aJ ?_)
 exact⟨_,.bool _ _,rfl⟩
theorem ztz (b:Bool):zu Tryz.prog zdP [.bool b] (·=.int .u32 (bif b then 1 else 0)):=by
 refine fn_x ztF rfl ?_;unfold zmM;have hB:=hBig
 cases b<;>((repeat first|simp(disch:=try exact dis1) only[evD,Nat.reduceBEq,Nat.reduceAdd,Nat.reduceLeDiff,zm0]|with_reducible first|intro _|refine aJ ?_);exact⟨_,.int _ _ _,rfl⟩)
def zvB (a w:Int):Int:=if w=1 then a.tmod 256 else if w=2 then a.tmod 65536 else a
theorem zqU (a w:Int):zu Tryz.prog zhz [.int .u32 a,.int .i64 w] (·=.int .u32 (zvB a w)):=by
 refine fn_x zpM rfl ?_;unfold zj1 zvB;have hB:=hBig
 by_cases h1:w=1
 ·
  rw[if_pos h1]
  (repeat first|simp(disch:=try exact dis1) only[evD,Nat.reduceBEq,Nat.reduceAdd,Nat.reduceLeDiff,dT,zd5]|with_reducible first|intro _|refine aJ ?_)
  exact⟨_,.int _ _ _,rfl⟩
 by_cases h2:w=2
 ·
  rw[if_neg h1,if_pos h2]
  (repeat first|simp(disch:=try exact dis1) only[evD,Nat.reduceBEq,Nat.reduceAdd,Nat.reduceLeDiff,dT,dF,zd5]|with_reducible first|intro _|refine aJ ?_)
  exact⟨_,.int _ _ _,rfl⟩
 ·
  rw[if_neg h1,if_neg h2]
  (repeat first|simp(disch:=try exact dis1) only[evD,Nat.reduceBEq,Nat.reduceAdd,Nat.reduceLeDiff,dF,zd5]|with_reducible first|intro _|refine aJ ?_)
  exact⟨_,.int _ _ _,rfl⟩
def itP (f:Int→Int):Nat→Int→Int
 | 0,a=>a
 | n+1,a=>itP f n (f a)
def shlF (a:Int):Int:=IntKind.u32.wrap (a * 2)
theorem zAn (a n:Int) (hn:0≤n):zu Tryz.prog zpz [.int .u32 a,.int .u32 n] (·=.int .u32 (itP shlF (n.tmod 32).toNat a)):=by
 refine fn_x zzz rfl ?_;unfold zsE;have hB:=hBig;have h32:0≤n.tmod 32∧n.tmod 32 < 32:=⟨Wx _ hn,Wy _ (by omega)⟩;generalize hR:itP shlF (n.tmod 32).toNat a=R
 (refine Qa ?_;intros)
 refine zk (fun s:Nat × Int=>([(0,.int .u32 s.2),(1,.int .u32 n),(5,.int .u32 s.1)],[])) 0 (fun s=>s.1≤(n.tmod 32).toNat∧itP shlF ((n.tmod 32).toNat - s.1) s.2=R) (fun s=>(n.tmod 32).toNat - s.1) (0,a) ⟨Wb _,hR⟩ (Ent.keep rfl fin5) ?_;rintro⟨i,x⟩ ⟨hi,hgo⟩ wf;simp only at hi hgo;unfold zmI;generalize hm:n.tmod 32=m at *
 by_cases hl:(i:Int) < m
 ·
  rw[show m.toNat - i=(m.toNat - (i+1))+1 by omega,itP] at hgo;have hw:IntKind.u32.wrap ((i:Int)+1)=((i+1:Nat):Int):=IntWalk.u32_in _ ⟨by omega,by omega⟩
  (repeat first|simp(disch:=try exact dis1) only[evD,Nat.reduceBEq,Nat.reduceAdd,Nat.reduceLeDiff,hm,dT,hw]|with_reducible first|intro _|refine aJ ?_)
  exact⟨(i+1,shlF x),⟨by simp only;omega,hgo⟩,by simp only;omega,Ent.keep rfl fin5⟩
 ·
  rw[show m.toNat - i=0 by omega,itP] at hgo
  (repeat first|simp(disch:=try exact dis1) only[evD,Nat.reduceBEq,Nat.reduceAdd,Nat.reduceLeDiff,hm,dF]|with_reducible first|intro _|refine aJ ?_)
  unfold zmT
  (repeat first|simp(disch:=try exact dis1) only[evD,Nat.reduceBEq,Nat.reduceAdd,Nat.reduceLeDiff,zsc]|with_reducible first|intro _|refine aJ ?_)
  exact⟨_,.int _ _ _,by rw[hgo]⟩
def shrF (a:Int):Int:=IntKind.u32.wrap (a.tdiv 2)
theorem zAE (a n:Int) (hn:0≤n):zu Tryz.prog zpP [.int .u32 a,.int .u32 n] (·=.int .u32 (itP shrF (n.tmod 32).toNat a)):=by
 refine fn_x zzX rfl ?_;unfold zsH;have hB:=hBig;have h32:0≤n.tmod 32∧n.tmod 32 < 32:=⟨Wx _ hn,Wy _ (by omega)⟩;generalize hR:itP shrF (n.tmod 32).toNat a=R
 (refine Qa ?_;intros)
 refine zk (fun s:Nat × Int=>([(0,.int .u32 s.2),(1,.int .u32 n),(5,.int .u32 s.1)],[])) 0 (fun s=>s.1≤(n.tmod 32).toNat∧itP shrF ((n.tmod 32).toNat - s.1) s.2=R) (fun s=>(n.tmod 32).toNat - s.1) (0,a) ⟨Wb _,hR⟩ (Ent.keep rfl fin5) ?_;rintro⟨i,x⟩ ⟨hi,hgo⟩ wf;simp only at hi hgo;unfold zmu;generalize hm:n.tmod 32=m at *
 by_cases hl:(i:Int) < m
 ·
  rw[show m.toNat - i=(m.toNat - (i+1))+1 by omega,itP] at hgo;have hw:IntKind.u32.wrap ((i:Int)+1)=((i+1:Nat):Int):=IntWalk.u32_in _ ⟨by omega,by omega⟩
  (repeat first|simp(disch:=try exact dis1) only[evD,Nat.reduceBEq,Nat.reduceAdd,Nat.reduceLeDiff,hm,dT,hw]|with_reducible first|intro _|refine aJ ?_)
  exact⟨(i+1,shrF x),⟨by simp only;omega,hgo⟩,by simp only;omega,Ent.keep rfl fin5⟩
 ·
  rw[show m.toNat - i=0 by omega,itP] at hgo
  (repeat first|simp(disch:=try exact dis1) only[evD,Nat.reduceBEq,Nat.reduceAdd,Nat.reduceLeDiff,hm,dF]|with_reducible first|intro _|refine aJ ?_)
  unfold zmZ
  (repeat first|simp(disch:=try exact dis1) only[evD,Nat.reduceBEq,Nat.reduceAdd,Nat.reduceLeDiff,zrO]|with_reducible first|intro _|refine aJ ?_)
  exact⟨_,.int _ _ _,by rw[hgo]⟩
theorem zbB (x:Int):0≤IntKind.u32.wrap x∧IntKind.u32.wrap x≤4294967295:=by rw[IntKind.wrap_u32];omega
def R32 (n:Int):Prop:=0≤n∧n≤4294967295
theorem zzM {a w:Int} (h:R32 a):R32 (zvB a w):=by
 obtain⟨h1,h2⟩:=h;unfold zvB;have q1:=Wx 256 h1;have q2:=Wy a (show (0:Int) < 256 by decide);have q3:=Wx 65536 h1;have q4:=Wy a (show (0:Int) < 65536 by decide);split
 · exact⟨q1,by omega⟩
 ·
  split
  · exact⟨q3,by omega⟩
  · exact⟨h1,h2⟩
theorem QN {p q:Prop}(k:q)(h:Im q p:=by(repeat first|simp(disch:=try exact dis1) only[evD,Nat.reduceBEq,Nat.reduceAdd,Nat.reduceLeDiff,dT,dF,zc0] | ((with_reducible apply Im.i);intro _) | ((with_reducible apply Im.a);omega));exact Im.r):p:=h k
theorem ziP (a w:Int) (ha:R32 a):∃n:Int,zu Tryz.prog zgW [.int .u32 a,.int .i64 w] (·=.int .u32 n)∧R32 n:=by
 have hB:=hBig;have ht:=zqU a w;have hrt:=zzM (w:=w) ha;generalize zvB a w=t at ht hrt
 by_cases h1:w=1
 ·
  by_cases h2:128≤t
  ·
   apply Exists.intro;apply We;refine fn_x zd9 rfl ?_;unfold zcX
   (refine Qa ?_;intros)
   refine ze (zd ht rfl) ?_
   (repeat first|simp(disch:=try exact dis1) only[evD,Nat.reduceBEq,Nat.reduceAdd,Nat.reduceLeDiff,dT,zc0]|with_reducible first|intro _|refine aJ ?_)
   exact⟨_,.int _ _ _,rfl⟩
   first|exact hrt|exact zbB _
  ·
   apply Exists.intro;apply We;refine fn_x zd9 rfl ?_;unfold zcX
   (refine Qa ?_;intros)
   refine ze (zd ht rfl) ?_
   (refine QN ?_;intros)
   exact⟨_,.int _ _ _,rfl⟩
   first|exact hrt|exact zbB _
 ·
  by_cases h3:w=2
  ·
   by_cases h2:32768≤t
   ·
    apply Exists.intro;apply We;refine fn_x zd9 rfl ?_;unfold zcX
    (refine Qa ?_;intros)
    refine ze (zd ht rfl) ?_
    (refine QN ?_;intros)
    exact⟨_,.int _ _ _,rfl⟩
    first|exact hrt|exact zbB _
   ·
    apply Exists.intro;apply We;refine fn_x zd9 rfl ?_;unfold zcX
    (refine Qa ?_;intros)
    refine ze (zd ht rfl) ?_
    (refine QN ?_;intros)
    exact⟨_,.int _ _ _,rfl⟩
    first|exact hrt|exact zbB _
  ·
   apply Exists.intro;apply We;refine fn_x zd9 rfl ?_;unfold zcX
   (refine Qa ?_;intros)
   refine ze (zd ht rfl) ?_
   (repeat first|simp(disch:=try exact dis1) only[evD,Nat.reduceBEq,Nat.reduceAdd,Nat.reduceLeDiff,dF,zc0]|with_reducible first|intro _|refine aJ ?_)
   exact⟨_,.int _ _ _,rfl⟩
   first|exact hrt|exact zbB _
def sarF (t a:Int):Int:=IntKind.u32.wrap (IntKind.u32.wrap (a.tdiv 2)+t)
theorem zF4 (n t R a:Int) (hn:0≤n) (hR:itP (sarF t) (n.tmod 32).toNat a=R) {K:Kn} {H:AH} {nx:Nat} (hent:Ent 0 K H nx [(0,.int .u32 a),(1,.int .u32 n),(5,.int .u32 t),(6,.int .u32 0)] [] 0) :
  zky Tryz.prog 0 zij (zby 0 (seqQ Tryz.prog 0 ziG (retK znF fun v H' x=>∃a,Frz H' v a∧a=.int .u32 R))) K H nx:=by
 have hB:=hBig;have h32:0≤n.tmod 32∧n.tmod 32 < 32:=⟨Wx _ hn,Wy _ (by omega)⟩;refine zk (fun s:Nat × Int=>([(0,.int .u32 s.2),(1,.int .u32 n),(5,.int .u32 t),(6,.int .u32 s.1)],[])) 0 (fun s=>s.1≤(n.tmod 32).toNat∧itP (sarF t) ((n.tmod 32).toNat - s.1) s.2=R) (fun s=>(n.tmod 32).toNat - s.1) (0,a) ⟨Wb _,hR⟩ hent ?_;rintro⟨i,x⟩ ⟨hi,hgo⟩ wf;simp only at hi hgo;unfold zij;generalize hm:n.tmod 32=m at *
 by_cases hl:(i:Int) < m
 ·
  rw[show m.toNat - i=(m.toNat - (i+1))+1 by omega,itP] at hgo;have hw:IntKind.u32.wrap ((i:Int)+1)=((i+1:Nat):Int):=IntWalk.u32_in _ ⟨by omega,by omega⟩
  (repeat first|simp(disch:=try exact dis1) only[evD,Nat.reduceBEq,Nat.reduceAdd,Nat.reduceLeDiff,hm,dT,hw]|with_reducible first|intro _|refine aJ ?_)
  exact⟨(i+1,sarF t x),⟨by simp only;omega,hgo⟩,by simp only;omega,Ent.keep rfl fin5⟩
 ·
  rw[show m.toNat - i=0 by omega,itP] at hgo
  (repeat first|simp(disch:=try exact dis1) only[evD,Nat.reduceBEq,Nat.reduceAdd,Nat.reduceLeDiff,hm,dF]|with_reducible first|intro _|refine aJ ?_)
  unfold ziG
  (repeat first|simp(disch:=try exact dis1) only[evD,Nat.reduceBEq,Nat.reduceAdd,Nat.reduceLeDiff,znF]|with_reducible first|intro _|refine aJ ?_)
  exact⟨_,.int _ _ _,by rw[hgo]⟩
def sarP (a n:Int):Int:=itP (sarF (if 2147483648≤a then 2147483648 else 0)) (n.tmod 32).toNat a
theorem zzC (a n:Int) (hn:0≤n):zu Tryz.prog zqI [.int .u32 a,.int .u32 n] (·=.int .u32 (sarP a n)):=by
 refine fn_x zzb rfl ?_;unfold zsj;have hB:=hBig;have hng:=zql a
 by_cases h:2147483648≤a
 ·
  have hR:itP (sarF 2147483648) (n.tmod 32).toNat a=sarP a n:=by unfold sarP;rw[if_pos h]
  generalize sarP a n=R at hR;rw[decide_eq_true h] at hng
  (refine Qa ?_;intros)
  refine ze (zd hng rfl) ?_
  (refine Qa ?_;intros)
  refine zF4 n 2147483648 R a hn hR (Ent.keep rfl fin5)
 ·
  have hR:itP (sarF 0) (n.tmod 32).toNat a=sarP a n:=by unfold sarP;rw[if_neg h]
  generalize sarP a n=R at hR;rw[decide_eq_false h] at hng
  (refine Qa ?_;intros)
  refine ze (zd hng rfl) ?_
  (refine Qa ?_;intros)
  refine zF4 n 0 R a hn hR (Ent.keep rfl fin5)
theorem zqF (b:Bool):R32 (bif b then 1 else 0):=by cases b<;>exact⟨by decide,by decide⟩
theorem zme {f:Int→Int} (hf:∀x,R32 (f x)):∀(n:Nat) (a:Int),R32 a→R32 (itP f n a)
 | 0,_,h=>h
 | n+1,a,_=>zme hf n _ (hf a)
theorem zmB {a n:Int} (h:R32 a):R32 (sarP a n):=zme (fun _=>zbB _) _ _ h
theorem Qn {p q:Prop}(k:q)(h:Im q p:=by(repeat first|simp(disch:=try exact dis1) only[evD,Nat.reduceBEq,Nat.reduceAdd,Nat.reduceLeDiff,dT,dF] | ((with_reducible apply Im.i);intro _) | ((with_reducible apply Im.a);omega));exact Im.r):p:=h k
theorem Qu {p q:Prop}(k:q)(h:Im q p:=by(repeat first|simp(disch:=try exact dis1) only[evD,Nat.reduceBEq,Nat.reduceAdd,Nat.reduceLeDiff,zdR] | ((with_reducible apply Im.i);intro _) | ((with_reducible apply Im.a);omega));exact Im.r):p:=h k
set_option maxHeartbeats 1000000 in
theorem zkj (op a b:Int) (ho:3≤op∧op≤15) (ha:R32 a) (hbr:R32 b):∃n:Int,zu Tryz.prog ziR [.int .i64 op,.int .u32 a,.int .u32 b] (·=.tup [.int .u32 n,.int .i64 0])∧R32 n:=by
 have hb:=hbr.1;have hB:=hBig;have hn:=ztz;have hsl:=zAn a b hb;have hsr:=zAE a b hb;have hsa:=zzC a b hb
 have key:∀Q:Prop,(op=3→Q)→(op=4→Q)→(op=5→Q)→(op=6→Q)→(op=7→Q)→(op=8→Q)→(op=9→Q)→(op=10→Q)→(op=11→Q)→(op=12→Q)→(op=13→Q)→(op=14→Q)→(op=15→Q)→Q:=by
  intro Q h3 h4 h5 h6 h7 h8 h9 h10 h11 h12 h13 h14 h15
  by_cases x3:op=3;exact h3 x3
  by_cases x4:op=4;exact h4 x4
  by_cases x5:op=5;exact h5 x5
  by_cases x6:op=6;exact h6 x6
  by_cases x7:op=7;exact h7 x7
  by_cases x8:op=8;exact h8 x8
  by_cases x9:op=9;exact h9 x9
  by_cases x10:op=10;exact h10 x10
  by_cases x11:op=11;exact h11 x11
  by_cases x12:op=12;exact h12 x12
  by_cases x13:op=13;exact h13 x13
  by_cases x14:op=14;exact h14 x14
  by_cases x15:op=15;exact h15 x15
  exfalso;omega
 refine key _ ?_ ?_ ?_ ?_ ?_ ?_ ?_ ?_ ?_ ?_ ?_ ?_ ?_
 all_goals first
  | (intro ho;apply Exists.intro;apply We;refine fn_x ze9 rfl ?_;unfold zdK;(refine Qn ?_;intros);(refine Qu ?_;intros);exact⟨_,.tup _ _ _ rfl (fun j x y h1 h2=>match j with|0=>by cases h1;cases h2;exact .int _ _ _|1=>by cases h1;cases h2;exact .int _ _ _|j+2=>by cases h1),rfl⟩;first|exact zbB _|exact zme (fun _=>zbB _) _ _ ha|exact zmB ha|exact zqF _)
  | (intro ho;apply Exists.intro;apply We;refine fn_x ze9 rfl ?_;unfold zdK;(refine Qn ?_;intros);refine ze (zd hsl rfl) ?_;(refine Qu ?_;intros);exact⟨_,.tup _ _ _ rfl (fun j x y h1 h2=>match j with|0=>by cases h1;cases h2;exact .int _ _ _|1=>by cases h1;cases h2;exact .int _ _ _|j+2=>by cases h1),rfl⟩;first|exact zbB _|exact zme (fun _=>zbB _) _ _ ha|exact zmB ha|exact zqF _)
  | (intro ho;apply Exists.intro;apply We;refine fn_x ze9 rfl ?_;unfold zdK;(refine Qn ?_;intros);refine ze (zd hsr rfl) ?_;(refine Qu ?_;intros);exact⟨_,.tup _ _ _ rfl (fun j x y h1 h2=>match j with|0=>by cases h1;cases h2;exact .int _ _ _|1=>by cases h1;cases h2;exact .int _ _ _|j+2=>by cases h1),rfl⟩;first|exact zbB _|exact zme (fun _=>zbB _) _ _ ha|exact zmB ha|exact zqF _)
  | (intro ho;apply Exists.intro;apply We;refine fn_x ze9 rfl ?_;unfold zdK;(refine Qn ?_;intros);refine ze (zd hsa rfl) ?_;(refine Qu ?_;intros);exact⟨_,.tup _ _ _ rfl (fun j x y h1 h2=>match j with|0=>by cases h1;cases h2;exact .int _ _ _|1=>by cases h1;cases h2;exact .int _ _ _|j+2=>by cases h1),rfl⟩;first|exact zbB _|exact zme (fun _=>zbB _) _ _ ha|exact zmB ha|exact zqF _)
  | (intro ho;apply Exists.intro;apply We;refine fn_x ze9 rfl ?_;unfold zdK;(refine Qn ?_;intros);refine ze (zd (hn _) rfl) ?_;(refine Qu ?_;intros);exact⟨_,.tup _ _ _ rfl (fun j x y h1 h2=>match j with|0=>by cases h1;cases h2;exact .int _ _ _|1=>by cases h1;cases h2;exact .int _ _ _|j+2=>by cases h1),rfl⟩;first|exact zbB _|exact zme (fun _=>zbB _) _ _ ha|exact zmB ha|exact zqF _)
structure Sct where
 name:ByteArray
 addr:Int
 data:List Int
 wr:Bool
 ex:Bool
def zrG (l:List Int):AV:=encL 1 (fun n=>[.int .u8 n]) l
def Sct.cells (s:Sct):List AV:=[.str s.name,.int .u32 s.addr,zrG s.data,.bool s.wr,.bool s.ex]
structure Sct.ok (s:Sct):Prop where
 a0:0≤s.addr
 a1:s.addr≤4294967295
 dl:s.data.length≤100000
def zte (s:Sct):Int:=if 4294967295 < s.addr+s.data.length then 4294967295 else s.addr+s.data.length
theorem zAD (s:Sct) (h:s.ok):zu Tryz.prog zmA [.agg s.cells] (·=.int .i64 (zte s)):=by
 refine fn_x zz5 rfl ?_;unfold zsx zte;have hB:=hBig;obtain⟨h0,h1,h2⟩:=h;obtain⟨nm,ad,d,wr,ex⟩:=s;simp only at h0 h1 h2;simp only[Sct.cells]
 by_cases hc:4294967295 < ad+d.length
 ·
  rw[if_pos hc]
  (repeat first|simp(disch:=try exact dis1) only[evD,Nat.reduceBEq,Nat.reduceAdd,Nat.reduceLeDiff,fldP,zrG,dT,znX]|with_reducible first|intro _|refine aJ ?_)
  exact⟨_,.int _ _ _,rfl⟩
 ·
  rw[if_neg hc]
  (repeat first|simp(disch:=try exact dis1) only[evD,Nat.reduceBEq,Nat.reduceAdd,Nat.reduceLeDiff,fldP,zrG,dF,znX]|with_reducible first|intro _|refine aJ ?_)
  exact⟨_,.int _ _ _,rfl⟩
def zoH:List Sct→Int→Int→Int
 | [],_,_ => -1
 | s::l,i,a=>if s.addr≤a∧a < zte s then i else zoH l (i+1) a
theorem zzw {l:List Sct} {i:Nat} {j a:Int} (h:i < l.length):zoH (l.drop i) j a=if l[i].addr≤a∧a < zte l[i] then j else zoH (l.drop (i+1)) (j+1) a:=by rw[Wh h,zoH]
theorem zxW (l:List Sct) (a:Int) (ha:0≤a∧a≤4294967295) (hl:∀s∈l,s.ok) (hn:l.length≤1000):zu Tryz.prog zkM [encL 5 Sct.cells l,.int .u32 a] (·=.int .i64 (zoH l 0 a)):=by
 refine fn_x zws rfl ?_;unfold zpA;have hB:=hBig;generalize hR:zoH l 0 a=R
 (refine Qa ?_;intros)
 refine zk (fun i:Nat=>([(0,encL 5 Sct.cells l),(1,.int .u32 a),(5,.int .i64 i)],[])) 0 (fun i=>i≤l.length∧zoH (l.drop i) i a=R) (fun i=>l.length - i) 0 ⟨Wb _,hR⟩ (Ent.keep rfl fin5) ?_;rintro i ⟨hi,hgo⟩ wf;unfold zlk
 by_cases hil:i < l.length
 ·
  have hg:(l.map Sct.cells).getD i []=[.str l[i].name,.int .u32 l[i].addr,zrG l[i].data,.bool l[i].wr,.bool l[i].ex]:=zq (f:=Sct.cells) (d:=[]) hil;have hok:=hl _ (Wg hil);have hen:=zAD l[i] hok;simp only[Sct.cells] at hen;rw[zzw hil] at hgo
  by_cases h1:l[i].addr≤a
  ·
   (repeat first|simp(disch:=try exact dis1) only[evD,Nat.reduceBEq,Nat.reduceAdd,Nat.reduceLeDiff,dT,hg,fldP]|with_reducible first|intro _|refine aJ ?_)
   refine ze (zd hen rfl) ?_
   by_cases h2:a < zte l[i]
   ·
    rw[if_pos ⟨h1,h2⟩] at hgo
    (repeat first|simp(disch:=try exact dis1) only[evD,Nat.reduceBEq,Nat.reduceAdd,Nat.reduceLeDiff,dT,zlV]|with_reducible first|intro _|refine aJ ?_)
    exact⟨_,.int _ _ _,by rw[hgo]⟩
   ·
    rw[if_neg (fun h=>h2 h.2)] at hgo
    (refine Qg ?_;intros)
    exact⟨i+1,⟨by omega,by rw[←hgo];rfl⟩,by omega,Ent.keep rfl fin5⟩
  ·
   rw[if_neg (by omega)] at hgo
   (repeat first|simp(disch:=try exact dis1) only[evD,Nat.reduceBEq,Nat.reduceAdd,Nat.reduceLeDiff,dT,dF,hg,fldP]|with_reducible first|intro _|refine aJ ?_)
   exact⟨i+1,⟨by omega,by rw[←hgo];rfl⟩,by omega,Ent.keep rfl fin5⟩
 ·
  rw[Wj (by omega),zoH] at hgo;rw[←hgo]
  (refine Qg ?_;intros)
  unfold zlz
  (repeat first|simp(disch:=try exact dis1) only[evD,Nat.reduceBEq,Nat.reduceAdd,Nat.reduceLeDiff,zlV]|with_reducible first|intro _|refine aJ ?_)
  exact⟨_,.int _ _ _,rfl⟩
structure Mem where
 l:List Sct
 c:List (Int × Int)
def celV (x:Int × Int):List AV:=[.int .u32 x.1,.int .u8 x.2]
def memV (m:Mem):AV:=.agg [.bool true,encL 5 Sct.cells m.l,encL 2 celV m.c]
structure Mem.ok (m:Mem):Prop where
 s:∀s∈m.l,s.ok
 n:m.l.length≤1000
 c:m.c.length≤1000000
def zbV (m:Mem) (a:Int):Int:=if 978944≤a∧a < 983040 then m.l.length else zoH m.l 0 a
theorem zsQ (a:Int):∀(l:List Sct) (i:Int),zoH l i a = -1∨∃k:Nat,∃hk:k < l.length,zoH l i a=i+k∧l[k].addr≤a∧a < zte l[k]
 | [],_=>Wm rfl
 |
  s::l,i=>by
  unfold zoH
  by_cases h:s.addr≤a∧a < zte s
  · rw[if_pos h];exact Wc ⟨0,WU _,by omega,h.1,h.2⟩
  ·
   rw[if_neg h]
   rcases zsQ a l (i+1) with h1 | ⟨k,hk,h1,h2,h3⟩
   · exact Wm h1
   · exact Wc ⟨k+1,WV hk,by omega,h2,h3⟩
theorem zEY (s:Sct):zte s≤s.addr+s.data.length:=by unfold zte;split<;>omega
theorem Qal {p q:Prop}(k:q)(h:Im q p:=by(repeat first|simp(disch:=try exact dis1) only[evD,Nat.reduceBEq,Nat.reduceAdd,Nat.reduceLeDiff,zfV] | ((with_reducible apply Im.i);intro _) | ((with_reducible apply Im.a);omega));exact Im.r):p:=h k
theorem ziv (m:Mem) (a:Int) (ha:0≤a∧a≤4294967295) (hm:m.ok):zu Tryz.prog ze2 [memV m,.int .u32 a] (·=.int .i64 (zbV m a)):=by
 refine fn_x ztL rfl ?_;unfold zng zbV;have hB:=hBig;obtain⟨l,c⟩:=m;obtain⟨hs,hn,hc⟩:=hm;simp only at hs hn hc;simp only[memV];have hf:=zxW l a ha hs hn
 by_cases h1:978944≤a
 ·
  by_cases h2:a < 983040
  ·
   rw[if_pos ⟨h1,h2⟩]
   (repeat first|simp(disch:=try exact dis1) only[evD,Nat.reduceBEq,Nat.reduceAdd,Nat.reduceLeDiff,fldP,dT,zfV]|with_reducible first|intro _|refine aJ ?_)
   exact⟨_,.int _ _ _,rfl⟩
  ·
   rw[if_neg (fun h=>h2 h.2)]
   (refine Qs ?_;intros)
   refine ze (zd hf rfl) ?_
   (refine Qal ?_;intros)
   exact⟨_,.int _ _ _,rfl⟩
 ·
  rw[if_neg (fun h=>h1 h.1)]
  (refine Qh ?_;intros)
  refine ze (zd hf rfl) ?_
  (refine Qal ?_;intros)
  exact⟨_,.int _ _ _,rfl⟩
theorem QA {p q:Prop}(k:q)(h:Im q p:=by(repeat first|simp(disch:=try exact dis1) only[evD,Nat.reduceBEq,Nat.reduceAdd,Nat.reduceLeDiff,dT,dF,zdl] | ((with_reducible apply Im.i);intro _) | ((with_reducible apply Im.a);omega));exact Im.r):p:=h k
theorem zlC (w:Int):zu Tryz.prog zfU [.int .i64 w] (·=.bool (decide (w=1∨w=2∨w=4))):=by
 refine fn_x zrB rfl ?_;unfold zlA;have hB:=hBig
 by_cases h1:w=1
 ·
  rw[decide_eq_true (show w=1∨w=2∨w=4 from Wm h1)]
  (refine QA ?_;intros)
  exact⟨_,.bool _ _,rfl⟩
 by_cases h2:w=2
 ·
  rw[decide_eq_true (show w=1∨w=2∨w=4 from Wc (Wm h2))]
  (refine QA ?_;intros)
  exact⟨_,.bool _ _,rfl⟩
 by_cases h3:w=4
 ·
  rw[decide_eq_true (show w=1∨w=2∨w=4 from Wc (Wc h3))]
  (refine QA ?_;intros)
  exact⟨_,.bool _ _,rfl⟩
 ·
  rw[decide_eq_false (show ¬(w=1∨w=2∨w=4) by omega)]
  (refine QA ?_;intros)
  exact⟨_,.bool _ _,rfl⟩
def Sct.nil:Sct:=⟨⟨#[]⟩,0,[],false,false⟩
def zur (m:Mem) (a:Int):Int:=if zbV m a < 0 then 0 else if zbV m a=m.l.length then IntKind.u32.wrap (983040 - a) else ((m.l.getD (zbV m a).toNat .nil).data.length:Int) - IntKind.u32.wrap (a - (m.l.getD (zbV m a).toNat .nil).addr)
theorem zjU (m:Mem) (a:Int):zbV m a = -1∨zbV m a=m.l.length∨∃k:Nat,∃hk:k < m.l.length,zbV m a=k∧m.l[k].addr≤a∧a < m.l[k].addr+m.l[k].data.length:=by
 unfold zbV
 by_cases h:978944≤a∧a < 983040
 · rw[if_pos h];exact Wc (Wm rfl)
 ·
  rw[if_neg h]
  rcases zsQ a m.l 0 with h1 | ⟨k,hk,h1,h2,h3⟩
  · exact Wm h1
  · have:=zEY m.l[k];exact Wc (Wc ⟨k,hk,by omega,h2,by omega⟩)
theorem zpl (m:Mem) (a:Int) (ha:0≤a∧a≤4294967295) (hm:m.ok):zu Tryz.prog zkW [memV m,.int .u32 a] (·=.int .i64 (zur m a)):=by
 refine fn_x zwX rfl ?_;unfold zpE;have hB:=hBig;have hr:=ziv m a ha hm;have hcs:=zjU m a;unfold zur;obtain⟨l,c⟩:=m;obtain⟨hs,hn,hc⟩:=hm;simp only at hs hn hc hcs;simp only;generalize zbV ⟨l,c⟩ a=r at hr hcs;simp only[memV] at hr ⊢
 (refine Qa ?_;intros)
 refine ze (zd hr rfl) ?_
 rcases hcs with h|h | ⟨k,hk,h,h2,h3⟩
 ·
  subst h;rw[if_pos (by omega)]
  (repeat first|simp(disch:=try exact dis1) only[evD,Nat.reduceBEq,Nat.reduceAdd,Nat.reduceLeDiff,dT,zih]|with_reducible first|intro _|refine aJ ?_)
  exact⟨_,.int _ _ _,rfl⟩
 ·
  subst h;rw[if_neg (by omega),if_pos rfl];have hw:=zbB (983040 - a)
  (repeat first|simp(disch:=try exact dis1) only[evD,Nat.reduceBEq,Nat.reduceAdd,Nat.reduceLeDiff,fldP,dT,dF,zih]|with_reducible first|intro _|refine aJ ?_)
  exact⟨_,.int _ _ _,rfl⟩
 ·
  subst h;rw[if_neg (by omega),if_neg (by omega)];have hg:(l.map Sct.cells).getD k []=[.str l[k].name,.int .u32 l[k].addr,zrG l[k].data,.bool l[k].wr,.bool l[k].ex]:=zq (f:=Sct.cells) (d:=[]) hk
  have hgd:l.getD (k:Int).toNat .nil=l[k]:=by rw[Wz,Wa,Wd hk,WA]
  rw[hgd];have hdl:=(hs _ (Wg hk)).dl;have hw:0≤IntKind.u32.wrap (a - l[k].addr)∧IntKind.u32.wrap (a - l[k].addr)≤4294967295:=zbB _
  (repeat first|simp(disch:=try exact dis1) only[evD,Nat.reduceBEq,Nat.reduceAdd,Nat.reduceLeDiff,fldP,hg,zrG,dT,dF,zih]|with_reducible first|intro _|refine aJ ?_)
  exact⟨_,.int _ _ _,rfl⟩
def zo4 (m:Mem) (a:Int):Int:=if zbV m a < 0∨zbV m a=m.l.length then 0 else (m.l.getD (zbV m a).toNat .nil).data.getD (IntKind.u32.wrap (a - (m.l.getD (zbV m a).toNat .nil).addr)).toNat 0
theorem zrl (m:Mem) (a:Int) (ha:0≤a∧a≤4294967295) (hm:m.ok):zu Tryz.prog zi1 [memV m,.int .u32 a] (·=.int .u8 (zo4 m a)):=by
 refine fn_x zrm rfl ?_;unfold zlv;have hB:=hBig;have hr:=ziv m a ha hm;have hcs:=zjU m a;unfold zo4;obtain⟨l,c⟩:=m;obtain⟨hs,hn,hc⟩:=hm;simp only at hs hn hc hcs;simp only;generalize zbV ⟨l,c⟩ a=r at hr hcs;simp only[memV] at hr ⊢
 (refine Qa ?_;intros)
 refine ze (zd hr rfl) ?_
 rcases hcs with h|h | ⟨k,hk,h,h2,h3⟩
 ·
  subst h;rw[if_pos (by omega)]
  (repeat first|simp(disch:=try exact dis1) only[evD,Nat.reduceBEq,Nat.reduceAdd,Nat.reduceLeDiff,dT,zeT]|with_reducible first|intro _|refine aJ ?_)
  exact⟨_,.int _ _ _,rfl⟩
 ·
  subst h;rw[if_pos (by omega)]
  (repeat first|simp(disch:=try exact dis1) only[evD,Nat.reduceBEq,Nat.reduceAdd,Nat.reduceLeDiff,fldP,dT,dF,zeT]|with_reducible first|intro _|refine aJ ?_)
  exact⟨_,.int _ _ _,rfl⟩
 ·
  subst h;rw[if_neg (by omega)];have hg:(l.map Sct.cells).getD k []=[.str l[k].name,.int .u32 l[k].addr,zrG l[k].data,.bool l[k].wr,.bool l[k].ex]:=zq (f:=Sct.cells) (d:=[]) hk
  have hgd:l.getD (k:Int).toNat .nil=l[k]:=by rw[Wz,Wa,Wd hk,WA]
  rw[hgd];have hok:=hs _ (Wg hk);have hdl:=hok.dl;have h0:=hok.a0;have hw:IntKind.u32.wrap (a - l[k].addr)=a - l[k].addr:=IntWalk.u32_in _ ⟨by omega,by omega⟩
  have hlt:(a - l[k].addr).toNat < l[k].data.length:=by omega
  have hg2:(l[k].data.map (fun n=>[AV.int .u8 n])).getD (a - l[k].addr).toNat []=[.int .u8 l[k].data[(a - l[k].addr).toNat]]:=zq (f:=fun n=>[AV.int .u8 n]) (d:=[]) hlt
  have hg3:l[k].data.getD (a - l[k].addr).toNat 0=l[k].data[(a - l[k].addr).toNat]:=by rw[Wa,Wd hlt,WA]
  rw[hw,hg3];generalize hd:a - l[k].addr=d at *
  (repeat first|simp(disch:=try exact dis1) only[evD,Nat.reduceBEq,Nat.reduceAdd,Nat.reduceLeDiff,fldP,hg,hw,hd,zrG,hg2,dT,dF,zeT]|with_reducible first|intro _|refine aJ ?_)
  exact⟨_,.int _ _ _,rfl⟩
def zxc (d:Int) (a:Int):List (Int × Int)→Int
 | []=>d
 | x::l=>if x.1=a then x.2 else zxc d a l
theorem zy4 {l:List (Int × Int)} {i:Nat} {d a:Int} (h:i < l.length):zxc d a (l.drop i)=if l[i].1=a then l[i].2 else zxc d a (l.drop (i+1)):=by rw[Wh h,zxc]
def zpa (m:Mem) (a:Int):Int:=zxc (zo4 m a) a m.c
theorem Qam {p q:Prop}(k:q)(h:Im q p:=by(repeat first|simp(disch:=try exact dis1) only[evD,Nat.reduceBEq,Nat.reduceAdd,Nat.reduceLeDiff,zac] | ((with_reducible apply Im.i);intro _) | ((with_reducible apply Im.a);omega));exact Im.r):p:=h k
theorem zrg (m:Mem) (a:Int) (ha:0≤a∧a≤4294967295) (hm:m.ok):zu Tryz.prog zi0 [memV m,.int .u32 a] (·=.int .u8 (zpa m a)):=by
 refine fn_x zrf rfl ?_;unfold zlx;have hB:=hBig;have hr:=zrl m a ha hm;generalize hR:zpa m a=R;unfold zpa at hR;generalize zo4 m a=d at hr hR;obtain⟨l,c⟩:=m;obtain⟨hs,hn,hc⟩:=hm;simp only at hs hn hc hR;simp only[memV] at hr ⊢
 (refine Qa ?_;intros)
 refine zk (fun i:Nat=>([(1,.int .u32 a),(2,encP 3 [.bool true,encL 5 Sct.cells l,encL 2 celV c]),(5,.int .i64 i)],[])) 0 (fun i=>i≤c.length∧zxc d a (c.drop i)=R) (fun i=>c.length - i) 0 ⟨Wb _,hR⟩ (Ent.keep rfl fin5) ?_;rintro i ⟨hi,hgo⟩ wf;unfold zid
 by_cases hil:i < c.length
 ·
  have hg:(c.map celV).getD i []=[.int .u32 c[i].1,.int .u8 c[i].2]:=zq (f:=celV) (d:=[]) hil;rw[zy4 hil] at hgo
  by_cases h1:c[i].1=a
  ·
   rw[if_pos h1] at hgo
   (repeat first|simp(disch:=try exact dis1) only[evD,Nat.reduceBEq,Nat.reduceAdd,Nat.reduceLeDiff,fldP,dT,hg,zhu]|with_reducible first|intro _|refine aJ ?_)
   exact⟨_,.int _ _ _,by rw[hgo]⟩
  ·
   rw[if_neg h1] at hgo
   (repeat first|simp(disch:=try exact dis1) only[evD,Nat.reduceBEq,Nat.reduceAdd,Nat.reduceLeDiff,fldP,dT,dF,hg]|with_reducible first|intro _|refine aJ ?_)
   exact⟨i+1,⟨by omega,hgo⟩,by omega,Ent.keep rfl fin5⟩
 ·
  rw[Wj (by omega),zxc] at hgo;rw[←hgo]
  (refine Qh ?_;intros)
  unfold zhO
  (refine Qam ?_;intros)
  refine ze (zd hr rfl) ?_
  (repeat first|simp(disch:=try exact dis1) only[evD,Nat.reduceBEq,Nat.reduceAdd,Nat.reduceLeDiff,zhu]|with_reducible first|intro _|refine aJ ?_)
  exact⟨_,.int _ _ _,rfl⟩
def zxl (m:Mem) (a:Int):Nat→Int→Int
 | 0,n=>n
 | i+1,n=>zxl m a i (IntKind.u32.wrap (IntKind.u32.wrap (256 * n)+IntKind.u32.wrap (zpa m (IntKind.u32.wrap (a+i)))))
theorem zuK (m:Mem) (a:Int):∀(i:Nat) (n:Int),0≤n∧n≤4294967295→0≤zxl m a i n∧zxl m a i n≤4294967295
 | 0,_,h=>h
 | i+1,_,_=>zuK m a i _ (zbB _)
def zom (m:Mem) (a w:Int):Int × Int:=if w=1∨w=2∨w=4 then (if zur m a < w then (0,11) else (zxl m a w.toNat 0,0)) else (0,2)
theorem zy5 (m:Mem) (a w:Int):0≤(zom m a w).1∧(zom m a w).1≤4294967295:=by
 unfold zom;split
 ·
  split
  · exact⟨by decide,by decide⟩
  · exact zuK _ _ _ _ ⟨by decide,by decide⟩
 · exact⟨by decide,by decide⟩
theorem Qan {p q:Prop}(k:q)(h:Im q p:=by(repeat first|simp(disch:=try exact dis1) only[evD,Nat.reduceBEq,Nat.reduceAdd,Nat.reduceLeDiff,ziu] | ((with_reducible apply Im.i);intro _) | ((with_reducible apply Im.a);omega));exact Im.r):p:=h k
theorem zxu (m:Mem) (a w:Int) (ha:0≤a∧a≤4294967295) (hm:m.ok):zu Tryz.prog zni [memV m,.int .u32 a,.int .i64 w] (·=.tup [.int .u32 (zom m a w).1,.int .i64 (zom m a w).2]):=by
 refine fn_x zwg rfl ?_;unfold zp2;have hB:=hBig
 have hpr:=fun b hb=>zrg m b hb hm
 have hw0:=zlC w;have hrs:=zpl m a ha hm;generalize hR:zom m a w=R;unfold zom at hR;generalize zur m a=rs at hrs hR
 by_cases hw:w=1∨w=2∨w=4
 ·
  rw[decide_eq_true hw] at hw0;rw[if_pos hw] at hR;obtain⟨l,c⟩:=m;simp only[memV] at hpr hrs ⊢
  (refine Ql ?_;intros)
  refine ze (zd hw0 rfl) ?_
  (refine Qam ?_;intros)
  refine ze (zd hrs rfl) ?_
  by_cases hl:rs < w
  ·
   rw[if_pos hl] at hR;subst hR
   (repeat first|simp(disch:=try exact dis1) only[evD,Nat.reduceBEq,Nat.reduceAdd,Nat.reduceLeDiff,dT,ziu]|with_reducible first|intro _|refine aJ ?_)
   exact⟨_,.tup _ _ _ rfl (fun j x y h1 h2=>match j with|0=>by cases h1;cases h2;exact .int _ _ _|1=>by cases h1;cases h2;exact .int _ _ _|j+2=>by cases h1),rfl⟩
  ·
   rw[if_neg hl] at hR
   have hw3:1≤w∧w≤4:=by omega
   (refine Qg ?_;intros)
   refine zk (fun s:Nat × Int=>([(1,.int .u32 a),(3,encP 3 [.bool true,encL 5 Sct.cells l,encL 2 celV c]),(8,.int .u32 s.2),(9,.int .i64 ((s.1:Int) - 1))],[])) 0 (fun s=>s.1≤4∧(zxl ⟨l,c⟩ a s.1 s.2,0)=R) (fun s=>s.1) (w.toNat,0) ⟨by simp only;omega,hR⟩ (by simp only;rw[show ((w.toNat:Nat):Int) - 1=w - 1 by omega];exact Ent.keep rfl fin5) ?_;rintro⟨i,x⟩ ⟨hi,hgo⟩ wf;simp only at hi hgo;unfold zlu
   match i with
   |
    0 =>
    rw[zxl] at hgo;subst hgo
    (refine Qg ?_;intros)
    unfold zls
    (refine Qan ?_;intros)
    exact⟨_,.tup _ _ _ rfl (fun j x y h1 h2=>match j with|0=>by cases h1;cases h2;exact .int _ _ _|1=>by cases h1;cases h2;exact .int _ _ _|j+2=>by cases h1),rfl⟩
   |
    i+1 =>
    rw[zxl] at hgo;have hb:IntKind.u32.wrap (i:Int)=i:=IntWalk.u32_in _ ⟨by omega,by omega⟩;have hp:=hpr _ (zbB (a+i))
    have e1:((i+1:Nat):Int) - 1=i:=by omega
    rw[e1]
    (repeat first|simp(disch:=try exact dis1) only[evD,Nat.reduceBEq,Nat.reduceAdd,Nat.reduceLeDiff,dT,hb,zac]|with_reducible first|intro _|refine aJ ?_)
    refine ze (zd hp rfl) ?_
    (refine Qa ?_;intros)
    exact⟨(i,_),⟨by simp only;omega,hgo⟩,by simp only;omega,Ent.keep rfl fin5⟩
 ·
  rw[decide_eq_false hw] at hw0;rw[if_neg hw] at hR;subst hR;obtain⟨l,c⟩:=m;simp only[memV] at hpr hrs ⊢
  (refine Ql ?_;intros)
  refine ze (zd hw0 rfl) ?_
  (refine Qan ?_;intros)
  exact⟨_,.tup _ _ _ rfl (fun j x y h1 h2=>match j with|0=>by cases h1;cases h2;exact .int _ _ _|1=>by cases h1;cases h2;exact .int _ _ _|j+2=>by cases h1),rfl⟩
theorem ziU {α:Type} {sz:Nat} {f:α→List AV} {l:List α} {i:Nat} (h:i≤l.length) (hf:∀a,(f a).length=sz) {H:AH}:zd1 sz (.sl sz i fun a j=>((l.map f).getD (Int.toNat 0+a) []).getD j .undef) H=some ((l.take i).map f):=by
 simp only[zd1,Nat.beq_refl,cond_true,WJ];apply WW
 · simp<;>omega
 ·
  intro k h1 h2;simp only[WK,WX] at h1
  have hk:k < l.length:=by omega
  simp only[WY,WZ,Int.toNat_zero,Nat.zero_add,List.getElem_take];rw[zq hk,zo5 _ _ _ (by rw[hf];omega),List.drop_zero]
theorem ziQ {α:Type} {sz:Nat} {f:α→List AV} {l:List α} {i:Nat} (h:i≤l.length) (hf:∀a,(f a).length=sz) {H:AH}:zd1 sz (.sl sz (l.length - i) fun a j=>((l.map f).getD (i+a) []).getD j .undef) H=some ((l.drop i).map f):=by
 simp only[zd1,Nat.beq_refl,cond_true,WJ];apply WW
 · simp<;>omega
 ·
  intro k h1 h2;simp only[WK,WX] at h1
  have hk:i+k < l.length:=by omega
  simp only[WY,WZ,List.getElem_drop];rw[zq hk,zo5 _ _ _ (by rw[hf];omega),List.drop_zero]
def insC (a b:Int):List (Int × Int)→List (Int × Int)
 | []=>[(a,b)]
 | x::l=>if x.1 < a then x::insC a b l else if x.1=a then (a,b)::l else (a,b)::x::l
theorem zB8 {a b:Int}:∀ {i:Nat} {l:List (Int × Int)},(∀j,(h:j < l.length)→j < i→l[j].1 < a)→insC a b l=l.take i++insC a b (l.drop i)
 | 0,l,_=>by simp
 | i+1,[],_=>by simp
 |
  i+1,x::l,h=>by
  have h0:=h 0 (by simp) (by omega);simp only[WT] at h0;rw[insC,if_pos h0,List.take_succ_cons,List.drop_succ_cons,List.cons_append,←zB8 (i:=i) fun j hj hji=>h (j+1) (by simpa using hj) (by omega)]
theorem zto {a b:Int}:∀ {l:List (Int × Int)},(insC a b l).length≤l.length+1
 | []=>by simp[insC]
 |
  x::l=>by
  unfold insC;split
  · have:=zto (a:=a) (b:=b) (l:=l);simp only[Wv];omega
  · split<;>simp
theorem zCS {H H2:AH} {σ:Nat→Nat→Option (Nat × Nat × Nat)} {D:Nat→Nat→Prop} {t:Bool} {r g:Nat} {l:List Sct} {c:List (Int × Int)} (hD:D r 0) (hg:H.get r 0=some (.row 2 (c.map celV) g)) (hb:c.length≤big) :
  Vw H H2 σ D t (.agg [.bool true,encL 5 Sct.cells l,.own r 0 g 0 c.length]) (memV ⟨l,c⟩) :=
 .agg _ _ _ rfl (fun j x y h1 h2=>match j with
  | 0=>by cases h1;cases h2;exact .bool _ _
  | 1=>by cases h1;cases h2;exact zat rfl
  |
   2=>by
   cases h1;cases h2;exact zhG hD hg hb (fun a _ j hj=>match j with|0=>.int _ _ _|1=>.int _ _ _|j+2=>absurd hj (by omega))
  | j+3=>by cases h1)
def zqe (m:Mem) (a b:Int):Mem:=⟨m.l,insC a b m.c⟩
theorem zum (m:Mem) (a b:Int) (hc:m.c.length≤1000000):zu Tryz.prog zlO [memV m,.int .u32 a,.int .u8 b] (·=memV (zqe m a b)):=by
 refine fn_x zvP rfl ?_;unfold zoy;have hB:=hBig;generalize hR:memV (zqe m a b)=R;obtain⟨l,c⟩:=m;simp only[memV,zqe] at hR hc ⊢
 have hl:∀x:Int × Int,(celV x).length=2:=fun _=>rfl
 (refine Qa ?_;intros)
 refine zk (fun i:Nat=>([(1,.int .u32 a),(2,.int .u8 b),(3,.ptr 0 0 0 0 0),(6,.ptr 1 0 0 0 0),(7,.int .i64 i)],[(0,.row 3 [[.bool true,encL 5 Sct.cells l,encL 2 celV c]] 0),(1,.row 3 [[.bool false,.nilsl,.nilsl]] 0)])) 2 (fun i=>i≤c.length∧∀j,(h:j < c.length)→j < i→c[j].1 < a) (fun i=>c.length - i) 0 ⟨Wb _,fun j _ h=>by omega⟩ (Ent.keep rfl fin5) ?_;rintro i ⟨hi,hlt⟩ wf;unfold zjF;have hat:=zB8 (b:=b) hlt
 have e1:=fun H=>ziU (H:=H) hi hl
 have e2:=fun H=>ziQ (H:=H) hi hl
 have k1:(c.take i).length=i:=by rw[WB];omega
 have k2:((c.take i).map celV).take i=(c.take i).map celV:=WC (by rw[WK];omega);have k3:(((c.take i).map celV)++[[AV.int .u32 a,.int .u8 b]]).take (i+1)=((c.take i).map celV)++[[AV.int .u32 a,.int .u8 b]]:=WC (by simp;omega)
 have k4:(((c.take i).map celV)++[[AV.int .u32 a,.int .u8 b]]).length=i+1:=by simp;omega
 have t1:((i:Int) - 0).toNat=i:=by omega
 have t2:((c.length:Int) - (i:Int)).toNat=c.length - i:=by omega
 by_cases hil:i < c.length
 ·
  have hg:(c.map celV).getD i []=[.int .u32 c[i].1,.int .u8 c[i].2]:=zq (f:=celV) (d:=[]) hil
  by_cases hx:c[i].1 < a
  ·
   (repeat first|simp(disch:=try exact dis1) only[evD,Nat.reduceBEq,Nat.reduceAdd,Nat.reduceLeDiff,dT,hg]|with_reducible first|intro _|refine aJ ?_)
   refine⟨i+1,⟨by omega,fun j hj hji=>?_⟩,by omega,Ent.keep rfl fin5⟩
   by_cases hje:j=i
   · subst hje;exact hx
   · exact hlt j hj (by omega)
  ·
   rw[Wh hil,insC,if_neg hx] at hat
   (repeat first|simp(disch:=try exact dis1) only[evD,Nat.reduceBEq,Nat.reduceAdd,Nat.reduceLeDiff,dT,dF,hg]|with_reducible first|intro _|refine aJ ?_)
   unfold zgL
   by_cases he:c[i].1=a
   ·
    rw[if_pos he] at hat
    have e3:=fun H=>ziQ (H:=H) (show i+1≤c.length from hil) hl
    have t3:((c.length:Int) - ((i:Int)+1)).toNat=c.length - (i+1):=by omega
    have t4:((i:Int)+1).toNat=i+1:=by omega
    (repeat first|simp(disch:=try exact dis1) only[evD,Nat.reduceBEq,Nat.reduceAdd,Nat.reduceLeDiff,dT,dF,hg,zgm,zgP,e1,e3,znB,znU,t1,t3,t4,k1,k2,k3,k4,zg6]|with_reducible first|intro _|refine aJ ?_)
    have er:(c.take i).map celV++[[AV.int .u32 a,.int .u8 b]]++(c.drop (i+1)).map celV=(insC a b c).map celV:=by rw[hat];simp[celV]
    have el:i+1+(c.length - (i+1))=(insC a b c).length:=by rw[hat];simp<;>omega
    rw[er,el];exact⟨_,zCS trivial rfl (by rw[←el];omega),hR⟩
   ·
    rw[if_neg he] at hat
    (repeat first|simp(disch:=try exact dis1) only[evD,Nat.reduceBEq,Nat.reduceAdd,Nat.reduceLeDiff,dT,dF,hg,zgm,zgP,e1,e2,znB,znU,t1,t2,k1,k2,k3,k4,zg6]|with_reducible first|intro _|refine aJ ?_)
    have er:(c.take i).map celV++[[AV.int .u32 a,.int .u8 b]]++(c.drop i).map celV=(insC a b c).map celV:=by rw[hat,←Wh hil];simp[celV]
    have el:i+1+(c.length - i)=(insC a b c).length:=by rw[hat];simp<;>omega
    rw[er,el];exact⟨_,zCS trivial rfl (by rw[←el];omega),hR⟩
 ·
  obtain rfl:i=c.length:=by omega
  (refine Qg ?_;intros)
  unfold zgL;rw[List.take_length] at e1 k3 k4 hat
  (repeat first|simp(disch:=try exact dis1) only[evD,Nat.reduceBEq,Nat.reduceAdd,Nat.reduceLeDiff,dF,zgm,zgP,e1,e2,znB,znU,t1,t2,k3,k4,zg6]|with_reducible first|intro _|refine aJ ?_)
  have er:c.map celV++[[AV.int .u32 a,.int .u8 b]]++(c.drop c.length).map celV=(insC a b c).map celV:=by rw[hat,W0,insC];simp[celV]
  have el:c.length+1+(c.length - c.length)=(insC a b c).length:=by rw[hat,W0,insC];simp
  rw[er,el];exact⟨_,zCS trivial rfl (by rw[←el];omega),hR⟩
def zhJ (a:Int):Nat→Nat→Mem→Int→Mem
 | 0,_,m,_=>m
 | k+1,i,m,n=>zhJ a k (i+1) (zqe m (IntKind.u32.wrap (a+i)) (IntKind.u8.wrap (n.tmod 256))) (IntKind.u32.wrap (n.tdiv 256))
theorem zp5 (a:Int):∀(k i:Nat) (m:Mem) (n:Int),(zhJ a k i m n).l=m.l
 | 0,_,_,_=>rfl
 | k+1,i,m,n=>by rw[zhJ,zp5 a k];rfl
theorem zuq (a:Int):∀(k i:Nat) (m:Mem) (n:Int),(zhJ a k i m n).c.length≤m.c.length+k
 | 0,_,_,_=>Wk _
 |
  k+1,i,m,n=>by
  have h:=zuq a k (i+1) (zqe m (IntKind.u32.wrap (a+i)) (IntKind.u8.wrap (n.tmod 256))) (IntKind.u32.wrap (n.tdiv 256));have h2:=zto (a:=IntKind.u32.wrap (a+i)) (b:=IntKind.u8.wrap (n.tmod 256)) (l:=m.c);rw[zhJ];have h3:(zqe m (IntKind.u32.wrap (a+i)) (IntKind.u8.wrap (n.tmod 256))).c.length≤m.c.length+1:=h2;omega
def zwG (m:Mem) (a:Int):Bool:=decide (zbV m a < m.l.length) && !(m.l.getD (zbV m a).toNat .nil).wr
def zfy (m:Mem) (a w n:Int):Mem × Int:=if w=1∨w=2∨w=4 then (if zur m a < w then (m,11) else bif zwG m a then (m,12) else (zhJ a w.toNat 0 m n,0)) else (m,2)
theorem zug {m:Mem} {a w n:Int} {b:Nat} (h:m.ok) (hb:m.c.length≤b) (hb2:b+4≤1000000):(zfy m a w n).1.ok∧(zfy m a w n).1.c.length≤b+4:=by
 unfold zfy;split
 ·
  rename_i hw;split
  · exact⟨h,by simp only;omega⟩
  ·
   cases zwG m a
   ·
    have h1:=zuq a w.toNat 0 m n;simp only[cond_false];refine⟨⟨?_,?_,?_⟩,?_⟩
    · rw[zp5];exact h.s
    · rw[zp5];exact h.n
    · omega
    · omega
   · exact⟨h,by simp only[cond_true];omega⟩
 · exact⟨h,by simp only;omega⟩
theorem zka {H H2:AH} {σ:Nat→Nat→Option (Nat × Nat × Nat)} {D:Nat→Nat→Prop} {t:Bool} {x y:AV} {e:Int} (h:Vw H H2 σ D t x y):Vw H H2 σ D t (.tup [x,.int .i64 e]) (.tup [y,.int .i64 e]) :=
 .tup _ _ _ rfl (fun j x y h1 h2=>match j with
  | 0=>by cases h1;cases h2;exact h
  | 1=>by cases h1;cases h2;exact .int _ _ _
  | j+2=>by cases h1)
theorem zsV {H H2:AH} {σ:Nat→Nat→Option (Nat × Nat × Nat)} {D:Nat→Nat→Prop} {t:Bool} {l:List Sct} {c:List (Int × Int)}:Vw H H2 σ D t (.agg [.bool true,encL 5 Sct.cells l,encL 2 celV c]) (memV ⟨l,c⟩):=zat rfl
def zwW (l:List Sct) (c:List (Int × Int)):List (Nat × AObj):=[(0,.row 3 [[.bool true,encL 5 Sct.cells l,encL 2 celV c]] 0),(1,.row 3 [[.bool false,.nilsl,.nilsl]] 0)]
theorem Qao {p q:Prop}(k:q)(h:Im q p:=by(repeat first|simp(disch:=try exact dis1) only[evD,Nat.reduceBEq,Nat.reduceAdd,Nat.reduceLeDiff,zdL] | ((with_reducible apply Im.i);intro _) | ((with_reducible apply Im.a);omega));exact Im.r):p:=h k
theorem zoj (m:Mem) (a w n:Int) (R:Mem × Int) (hw:1≤w∧w≤4) (hc:m.c.length≤999990) (hR:(zhJ a w.toNat 0 m n,0)=R) {K:Kn} {H:AH} {nx:Nat}
  (hent:Ent 0 K H nx [(1,.int .u32 a),(2,.int .i64 w),(3,.int .u32 n),(4,.ptr 0 0 0 0 0),(8,.ptr 1 0 0 0 0),(11,.int .i64 0)] (zwW m.l m.c) 2) :
  zky Tryz.prog 0 zf4 (zby 0 (seqQ Tryz.prog 0 zge (retK zdL fun v H' x=>∃a,Frz H' v a∧a=.tup [memV R.1,.int .i64 R.2]))) K H nx:=by
 have hB:=hBig;refine zk (fun s:Nat × List (Int × Int) × Int=>([(1,.int .u32 a),(2,.int .i64 w),(3,.int .u32 s.2.2),(4,.ptr 0 0 0 0 0),(8,.ptr 1 0 0 0 0),(11,.int .i64 s.1)],zwW m.l s.2.1)) 2 (fun s=>(s.1:Int)≤w∧s.2.1.length≤m.c.length+s.1∧(zhJ a (w.toNat - s.1) s.1 ⟨m.l,s.2.1⟩ s.2.2,0)=R) (fun s=>w.toNat - s.1) (0,m.c,n) ⟨by simp only;omega,by simp only;omega,hR⟩ hent ?_;rintro⟨i,c,n⟩ ⟨hi,hlen,hgo⟩ wf;simp only at hi hgo hlen;unfold zf4 zwW
 by_cases hil:(i:Int) < w
 ·
  rw[show w.toNat - i=(w.toNat - (i+1))+1 by omega,zhJ] at hgo;have hb:IntKind.u32.wrap (i:Int)=i:=IntWalk.u32_in _ ⟨by omega,by omega⟩;have hwr:=zum ⟨m.l,c⟩ (IntKind.u32.wrap (a+i)) (IntKind.u8.wrap (n.tmod 256)) (by simp only;omega);simp only[memV,zqe] at hwr
  (repeat first|simp(disch:=try exact dis1) only[evD,Nat.reduceBEq,Nat.reduceAdd,Nat.reduceLeDiff,dT,hb]|with_reducible first|intro _|refine aJ ?_)
  refine ze (zd hwr rfl) ?_
  (refine Qa ?_;intros)
  exact⟨(i+1,insC (IntKind.u32.wrap (a+i)) (IntKind.u8.wrap (n.tmod 256)) c,IntKind.u32.wrap (n.tdiv 256)),⟨by first|omega | (simp only;omega),Ww zto (by omega),hgo⟩,by first|omega | (simp only;omega),Ent.keep rfl fin5⟩
 ·
  rw[show w.toNat - i=0 by omega,zhJ] at hgo;subst hgo
  (refine Qg ?_;intros)
  unfold zge
  (refine Qao ?_;intros)
  exact⟨_,zka zsV,rfl⟩
theorem zoG (m:Mem) (a w n:Int) (ha:0≤a∧a≤4294967295) (hn:0≤n∧n≤4294967295) (hm:m.ok) (hc:m.c.length≤999990):zu Tryz.prog ziF [memV m,.int .u32 a,.int .i64 w,.int .u32 n] (·=.tup [memV (zfy m a w n).1,.int .i64 (zfy m a w n).2]):=by
 refine fn_x zvb rfl ?_;unfold zoa;have hB:=hBig;have hw0:=zlC w;have hrs:=zpl m a ha hm;have hrg:=ziv m a ha hm;have hcs:=zjU m a;generalize hR:zfy m a w n=R;unfold zfy zwG at hR
 have h0:zur m a < 1∨0≤zbV m a:=by
  by_cases h:zbV m a < 0
  · left;unfold zur;rw[if_pos h];decide
  · right;omega
 generalize zur m a=rs at hrs hR h0
 by_cases hw:w=1∨w=2∨w=4
 ·
  have hw3:1≤w∧w≤4:=by clear hR hrs hrg hcs h0;omega
  rw[decide_eq_true hw] at hw0;rw[if_pos hw] at hR;have hl5:=hm.n;obtain⟨l,c⟩:=m;simp only at hcs hR hc hl5;simp only[memV] at hrs hrg ⊢
  (refine Qa ?_;intros)
  refine ze (zd hw0 rfl) ?_
  (refine Qa ?_;intros)
  refine ze (zd hrs rfl) ?_
  by_cases hl:rs < w
  ·
   rw[if_pos hl] at hR;subst hR
   (repeat first|simp(disch:=try exact dis1) only[evD,Nat.reduceBEq,Nat.reduceAdd,Nat.reduceLeDiff,dT,zdL]|with_reducible first|intro _|refine aJ ?_)
   exact⟨_,zka zsV,rfl⟩
  ·
   rw[if_neg hl] at hR
   (refine Qg ?_;intros)
   refine ze (zd hrg rfl) ?_
   rcases hcs with h|h | ⟨k,hk,h,h2,h3⟩
   · exfalso;clear hR hrs hrg;omega
   ·
    rw[h] at hR ⊢;rw[decide_eq_false (Int.lt_irrefl _),Wo,cond_false] at hR
    (refine Qg ?_;intros)
    exact zoj ⟨l,c⟩ a w n R hw3 hc hR (Ent.keep rfl fin5)
   ·
    have hg:(l.map Sct.cells).getD k []=[.str l[k].name,.int .u32 l[k].addr,zrG l[k].data,.bool l[k].wr,.bool l[k].ex]:=zq (f:=Sct.cells) (d:=[]) hk
    have hgd:l.getD (k:Int).toNat .nil=l[k]:=by rw[Wz,Wa,Wd hk,WA]
    rw[h] at hR ⊢;rw[decide_eq_true (show (k:Int) < l.length by omega),Wp,hgd] at hR;cases hwr:l[k].wr
    ·
     rw[hwr] at hR;subst hR
     (repeat first|simp(disch:=try exact dis1) only[evD,Nat.reduceBEq,Nat.reduceAdd,Nat.reduceLeDiff,dT,hg,fldP,hwr,zdL]|with_reducible first|intro _|refine aJ ?_)
     exact⟨_,zka zsV,rfl⟩
    ·
     rw[hwr] at hR
     (repeat first|simp(disch:=try exact dis1) only[evD,Nat.reduceBEq,Nat.reduceAdd,Nat.reduceLeDiff,dT,hg,fldP,hwr]|with_reducible first|intro _|refine aJ ?_)
     exact zoj ⟨l,c⟩ a w n R hw3 hc hR (Ent.keep rfl fin5)
 ·
  rw[decide_eq_false hw] at hw0;rw[if_neg hw] at hR;subst hR;obtain⟨l,c⟩:=m;simp only[memV]
  (refine Qa ?_;intros)
  refine ze (zd hw0 rfl) ?_
  (refine Qao ?_;intros)
  exact⟨_,zka zsV,rfl⟩
theorem zyt {n:Int} (h:InR .u32 n):IntKind.u32.wrap n=n:=by have h1:(0:Int)≤n:=h.1;have h2:n≤4294967295:=h.2;exact IntWalk.u32_in _ ⟨h1,h2⟩
def cU (n:Int):List AV:=[.int .u32 n]
def encU (s:List Int):AV:=encL 1 cU s
def stV (s:List Int):AV:=.agg [encL 1 cU s]
def zaK (s:List Int) (v:Int):Int:=if v < 0∨(s.length:Int)≤v then 0 else IntKind.u32.wrap (s.getD v.toNat 0)
theorem zz4 (s:List Int) (v:Int):R32 (zaK s v):=by
 unfold zaK;split
 · exact⟨by decide,by decide⟩
 · exact zbB _
theorem zvC (s:List Int) (v:Int):zu Tryz.prog zlJ [stV s,.int .i64 v] (·=.int .u32 (zaK s v)):=by
 refine fn_x zt4 rfl ?_;unfold zof zaK stV;have hB:=hBig
 by_cases h1:v < 0
 ·
  rw[if_pos (Wm h1)]
  (repeat first|simp(disch:=try exact dis1) only[evD,Nat.reduceBEq,Nat.reduceAdd,Nat.reduceLeDiff,fldP,dT,zhd]|with_reducible first|intro _|refine aJ ?_)
  exact⟨_,.int _ _ _,rfl⟩
 by_cases h2:(s.length:Int)≤v
 ·
  rw[if_pos (Wc h2)]
  (repeat first|simp(disch:=try exact dis1) only[evD,Nat.reduceBEq,Nat.reduceAdd,Nat.reduceLeDiff,fldP,dT,dF,zhd]|with_reducible first|intro _|refine aJ ?_)
  exact⟨_,.int _ _ _,rfl⟩
 ·
  rw[if_neg (by omega)]
  have hv:v.toNat < s.length:=by omega
  have hg:(s.map cU).getD v.toNat []=[.int .u32 s[v.toNat]]:=zq (f:=cU) (d:=[]) hv
  have hgd:s.getD v.toNat 0=s[v.toNat]:=by rw[Wa,Wd hv,WA]
  rw[hgd]
  (repeat first|simp(disch:=try exact dis1) only[evD,Nat.reduceBEq,Nat.reduceAdd,Nat.reduceLeDiff,fldP,hg,dT,dF,zhd]|with_reducible first|intro _|refine aJ ?_)
  rename_i hin;exact⟨_,.int _ _ _,by rw[zyt hin]⟩
theorem zDr {l:List Int} {H:AH}:zd1 1 (encL 1 cU l) H=some (l.map cU):=zsB (fun _ _=>rfl)
theorem vw_U {H H2:AH} {σ:Nat→Nat→Option (Nat × Nat × Nat)} {D:Nat→Nat→Prop} {t:Bool} {r q g:Nat} {l:List Int} (hD:D r q) (hg:H.get r q=some (.row 1 (l.map cU) g)) (hb:l.length≤big):Vw H H2 σ D t (.own r q g 0 l.length) (encU l) :=
 zhG hD hg hb (fun a _ j hj=>match j with|0=>.int _ _ _|j+1=>absurd hj (by omega))
theorem vw_st {H H2:AH} {σ:Nat→Nat→Option (Nat × Nat × Nat)} {D:Nat→Nat→Prop} {t:Bool} {r q g:Nat} {l:List Int} (hD:D r q) (hg:H.get r q=some (.row 1 (l.map cU) g)) (hb:l.length≤big):Vw H H2 σ D t (.agg [.own r q g 0 l.length]) (stV l) :=
 .agg _ _ _ rfl (fun j x y h1 h2=>match j with
  | 0=>by cases h1;cases h2;exact vw_U hD hg hb
  | j+1=>by cases h1)
def setR (s:List Int) (v n:Int):List Int:=(s++List.replicate (v.toNat+1 - s.length) 0).set v.toNat n
theorem Qbv {p:Prop}(h:p:=by(try simp only[evWB,Nat.reduceBEq,Nat.reduceAdd,Nat.reduceSub,Nat.reduceLeDiff,Nat.reduceLT,implies_true,cU])<;>exact fin2):p:=h
theorem zrJ (s:List Int) (v n:Int) (hs:s.length≤100000) (hv:0≤v∧v < 65536):zu Tryz.prog zms [stV s,.int .i64 v,.int .u32 n] (·=stV (setR s v n)):=by
 refine fn_x zAH rfl ?_;unfold zsg;have hB:=hBig;generalize hR:stV (setR s v n)=R
 have e0:=fun H=>zDr (l:=s) (H:=H)
 unfold stV
 (repeat first|simp(disch:=try exact dis1) only[evD,Nat.reduceBEq,Nat.reduceAdd,Nat.reduceLeDiff,fldP,e0]|with_reducible first|intro _|refine aJ ?_)
 refine zk (fun x:List Int × Nat=>([(1,.int .i64 v),(2,.int .u32 n),(6,.ptr 0 0 0 0 0),(7,.own 1 0 x.2 0 x.1.length)],[(0,.row 1 [[.nilsl]] 0),(1,.row 1 (x.1.map cU) x.2)])) 2 (fun x=>∃k:Nat,x.1=s++List.replicate k 0∧k≤v.toNat+1 - s.length) (fun x=>v.toNat+1 - x.1.length) (s,1) ⟨0,by simp,Wb _⟩ (Ent.keep rfl fin5) ?_;rintro⟨L,g⟩ ⟨k,hL,hk⟩ wf;simp only at hL hk;unfold zmn
 have hlen:L.length=s.length+k:=by rw[hL];simp
 by_cases h:(L.length:Int)≤v
 ·
  have k1:(L.map cU).take L.length=L.map cU:=WC (by simp)
  have k2:(L.map cU++[[AV.int .u32 0]]).length=L.length+1:=by simp
  (repeat first|simp(disch:=try exact dis1) only[evD,Nat.reduceBEq,Nat.reduceAdd,Nat.reduceLeDiff,dT,k1,k2]|with_reducible first|intro _|refine aJ ?_)
  refine⟨(L++[0],g+1),⟨k+1,by rw[hL];simp[List.replicate_succ'],by omega⟩,by simp only[Wl,WL];omega,?_⟩;simp only[Wl,WL,WM,Wi,WN];exact(Ent.tab [(0,0,0),(1,1,0)] [] rfl Qbv Qbv)
 ·
  obtain rfl:k=v.toNat+1 - s.length:=by omega
  (refine Qg ?_;intros)
  unfold zm9
  (repeat first|simp(disch:=try exact dis1) only[evD,Nat.reduceBEq,Nat.reduceAdd,Nat.reduceLeDiff,dT,zsF]|with_reducible first|intro _|refine aJ ?_)
  rw[show ((L.map cU).set v.toNat [AV.int .u32 n])=(setR s v n).map cU by unfold setR;rw[←hL,List.map_set];rfl,show L.length=(setR s v n).length by unfold setR;rw[←hL,List.length_set]];exact⟨_,vw_st trivial rfl (by unfold setR;rw[←hL,List.length_set];omega),hR⟩
end Go.Ab
namespace Go.Ab
open Go.RowKit Go.Proofs Go.Proofs.YtdhlfajcofgpkaaGreat Go.ChangeShapes Go.WideShapes
theorem open_words {HH:Type} {enc:TypeId × Value→HH} {w:World} {base b2:Nat} {spare:Nat→Bool} {held:Bool} {L:Nat→Prop} (hL:∀b,¬L b)
  {v:Value} {d:DataW HH} {ps:List MemPlace} (hv:Value.okWide Tryz.prog w .any base 27 v) (h:DataW.Trod enc Tryz.prog w b2 spare held 27 v d ps):∃l:List Int,True∧∀ι,VR w L ι v (encL 1 cU l) :=
 zst hL Tryz.underlying27 Tryz.underlying22 (by kernel_rfl) hv h
end Go.Ab
namespace Go.Ab
open Go.RowKit Go.Proofs
open Classical in
noncomputable def zvU (op a b:Int):Int:=if h:(3≤op∧op≤15)∧R32 a∧R32 b then (zkj op a b h.1 h.2.1 h.2.2).choose else 0
theorem zCJ {op a b:Int} (ho:3≤op∧op≤15) (ha:R32 a) (hb:R32 b):zu Tryz.prog ziR [.int .i64 op,.int .u32 a,.int .u32 b] (·=.tup [.int .u32 (zvU op a b),.int .i64 0]):=by unfold zvU;rw[dif_pos ⟨ho,ha,hb⟩];exact(zkj op a b ho ha hb).choose_spec.1
theorem zAC (op a b:Int):R32 (zvU op a b):=by
 unfold zvU;split
 · rename_i h;exact(zkj op a b h.1 h.2.1 h.2.2).choose_spec.2
 · exact⟨by decide,by decide⟩
open Classical in
noncomputable def extP (a w:Int):Int:=if h:R32 a then (ziP a w h).choose else 0
theorem zGX {a w:Int} (ha:R32 a):zu Tryz.prog zgW [.int .u32 a,.int .i64 w] (·=.int .u32 (extP a w)):=by unfold extP;rw[dif_pos ha];exact(ziP a w ha).choose_spec.1
theorem zFr (a w:Int):R32 (extP a w):=by
 unfold extP;split
 · rename_i h;exact(ziP a w h).choose_spec.2
 · exact⟨by decide,by decide⟩
noncomputable def zsq (m:Mem) (s:List Int) (op n v w:Int) (r:List (Int × Int)):Int × Int :=
 if op=1 then (IntKind.u32.wrap n,0)
 else if op=2 then (zaK s v,0)
 else if (r.getD 0 (0,0)).2≠0 then (0,(r.getD 0 (0,0)).2)
 else if op=16 then (if (r.getD 0 (0,0)).1=0 then 1 else 0,0)
 else if op=17 then (IntKind.u32.wrap (0 - (r.getD 0 (0,0)).1),0)
 else if op=18 then zom m (r.getD 0 (0,0)).1 w
 else if op=19 then (extP (r.getD 0 (0,0)).1 w,0)
 else if (r.getD 1 (0,0)).2≠0 then (0,(r.getD 1 (0,0)).2)
 else (zvU op (r.getD 0 (0,0)).1 (r.getD 1 (0,0)).1,0)
mutual
noncomputable def zhI (m:Mem) (s:List Int):Ex→Int × Int
 | .mk op n v w l=>zsq m s op n v w (zdp m s l)
noncomputable def zdp (m:Mem) (s:List Int):List Ex→List (Int × Int)
 | []=>[]
 | e::l=>zhI m s e::zdp m s l
end
theorem znK (m:Mem) (s:List Int):∀l:List Ex,zdp m s l=l.map (zhI m s)
 | []=>by rw[zdp];rfl
 | e::l=>by rw[zdp,znK m s l];rfl
theorem zpO (m:Mem) (s:List Int) (e:Ex):R32 (zhI m s e).1:=by
 obtain⟨op,n,v,w,l⟩:=e;rw[zhI];unfold zsq
 repeat' split
 all_goals first
  | exact zbB _
  | exact⟨Int.le_refl 0,by show (0:Int)≤4294967295;decide⟩
  | exact zz4 _ _
  | exact zy5 _ _ _
  | exact zFr _ _
  | exact zAC _ _ _
  | exact⟨by decide,by decide⟩
theorem zoY {H H2:AH} {σ:Nat→Nat→Option (Nat × Nat × Nat)} {D:Nat→Nat→Prop} {t:Bool} {a e:Int}:Vw H H2 σ D t (.tup [.int .u32 a,.int .i64 e]) (.tup [.int .u32 a,.int .i64 e]):=zka (.int _ _ _)
theorem Qj {p q:Prop}(k:q)(h:Im q p:=by(repeat first|simp(disch:=try exact dis1) only[evD,Nat.reduceBEq,Nat.reduceAdd,Nat.reduceLeDiff,fldP,zac,dT,dF] | ((with_reducible apply Im.i);intro _) | ((with_reducible apply Im.a);omega));exact Im.r):p:=h k
theorem QB {p q:Prop}(k:q)(h:Im q p:=by(repeat first|simp(disch:=try exact dis1) only[evD,Nat.reduceBEq,Nat.reduceAdd,Nat.reduceLeDiff,zbv] | ((with_reducible apply Im.i);intro _) | ((with_reducible apply Im.a);omega));exact Im.r):p:=h k
theorem QO {p q:Prop}(k:q)(h:Im q p:=by(repeat first|simp(disch:=try exact dis1) only[evD,Nat.reduceBEq,Nat.reduceAdd,Nat.reduceLeDiff,fldP,dT,dF,zbv] | ((with_reducible apply Im.i);intro _) | ((with_reducible apply Im.a);omega));exact Im.r):p:=h k
theorem Qap {p q:Prop}(k:q)(h:Im q p:=by(repeat first|simp(disch:=try exact dis1) only[evD,Nat.reduceBEq,Nat.reduceAdd,Nat.reduceLeDiff,dT,zbv] | ((with_reducible apply Im.i);intro _) | ((with_reducible apply Im.a);omega));exact Im.r):p:=h k
theorem zw4 (m:Mem) (s:List Int) (hm:m.ok):∀(k:Nat) (e:Ex),zbq e≤k→zdE e=true→zu Tryz.prog zhU [.agg (encX e),stV s,memV m] (·=.tup [.int .u32 (zhI m s e).1,.int .i64 (zhI m s e).2]):=by
 intro k
 induction k with
 | zero=>intro e h;obtain⟨_,_,_,_,l⟩:=e;rw[zbq] at h;omega
 | succ k ih =>
 intro e hk hf;obtain⟨op,nn,v,w,l⟩:=e;refine fn_x zxy rfl ?_;unfold zqQ;have hB:=hBig;rw[zbq] at hk;rw[zdE,Wr] at hf;obtain⟨hfl,hsh⟩:=hf;unfold zw at hsh;have hsh:=of_decide_eq_true hsh;rw[zcj,WH] at hfl;rw[zbo,zhI];generalize hR:zsq m s op nn v w (zdp m s l)=R;unfold zsq at hR;have hval:=zvC s v
 by_cases h1:op=1
 ·
  rw[if_pos h1] at hR;subst hR;simp only[stV,memV]
  (repeat first|simp(disch:=try exact dis1) only[evD,Nat.reduceBEq,Nat.reduceAdd,Nat.reduceLeDiff,fldP,dT,zbv]|with_reducible first|intro _|refine aJ ?_)
  rename_i hin;rw[zyt hin];exact⟨_,zoY,rfl⟩
 by_cases h2:op=2
 ·
  rw[if_neg h1,if_pos h2] at hR;subst hR;simp only[stV,memV] at hval ⊢
  (refine Qj ?_;intros)
  refine ze (zd hval rfl) ?_
  (refine QB ?_;intros)
  exact⟨_,zoY,rfl⟩
 have hl1:1≤l.length:=by omega
 have hl0:0 < l.length:=by omega
 have hg0:(l.map encX).getD (Int.toNat 0) []=encX l[0]:=zq (f:=encX) (d:=[]) hl0;have hs0:=zcK (Wg hl0)
 have hr0:(zdp m s l).getD 0 (0,0)=zhI m s l[0]:=by rw[znK];exact zq hl0
 have hc0:=ih l[0] (by omega) (hfl _ (Wg hl0));have hrg0:=zpO m s l[0];rw[if_neg h1,if_neg h2,hr0] at hR;generalize zhI m s l[0]=A at hc0 hR hrg0;obtain⟨a,f⟩:=A;simp only at hR hc0 hrg0;simp only[stV,memV] at hc0 ⊢
 (repeat first|simp(disch:=try exact dis1) only[evD,Nat.reduceBEq,Nat.reduceAdd,Nat.reduceLeDiff,fldP,zac,hg0,zaI,zai,dT,dF]|with_reducible first|intro _|refine aJ ?_)
 refine zao (zd hc0 (flX rfl)) ?_
 by_cases hf0:f=0
 ·
  rw[if_neg (show ¬f≠0 from fun h=>h hf0)] at hR
  by_cases h16:op=16
  ·
   rw[if_pos h16] at hR
   by_cases ha:a=0
   ·
    rw[if_pos ha] at hR;subst hR
    (refine QO ?_;intros)
    exact⟨_,zoY,rfl⟩
   ·
    rw[if_neg ha] at hR;subst hR
    (refine QO ?_;intros)
    exact⟨_,zoY,rfl⟩
  rw[if_neg h16] at hR
  by_cases h17:op=17
  ·
   rw[if_pos h17] at hR;subst hR
   (refine QO ?_;intros)
   exact⟨_,zoY,rfl⟩
  rw[if_neg h17] at hR
  by_cases h18:op=18
  ·
   rw[if_pos h18] at hR;subst hR;have hld:=zxu m a w hrg0 hm;simp only[memV] at hld
   (refine Qj ?_;intros)
   refine ze (zd hld rfl) ?_
   (refine QB ?_;intros)
   exact⟨_,zoY,rfl⟩
  rw[if_neg h18] at hR
  by_cases h19:op=19
  ·
   rw[if_pos h19] at hR;subst hR;have hex:=zGX (w:=w) hrg0
   (refine Qj ?_;intros)
   refine ze (zd hex rfl) ?_
   (refine QB ?_;intros)
   exact⟨_,zoY,rfl⟩
  rw[if_neg h19] at hR
  have hop:3≤op∧op≤15:=by clear hR;omega
  have hlb:1 < l.length:=by clear hR;omega
  have hg1:(l.map encX).getD (Int.toNat 1) []=encX l[1]:=zq (f:=encX) (d:=[]) hlb;have hs1:=zcK (Wg hlb)
  have hr1:(zdp m s l).getD 1 (0,0)=zhI m s l[1]:=by rw[znK];exact zq hlb
  have hc1:=ih l[1] (by omega) (hfl _ (Wg hlb));have hrg1:=zpO m s l[1];rw[hr1] at hR;generalize zhI m s l[1]=B at hc1 hR hrg1;obtain⟨b,f1⟩:=B;simp only at hR hc1 hrg1;simp only[stV,memV] at hc1
  (repeat first|simp(disch:=try exact dis1) only[evD,Nat.reduceBEq,Nat.reduceAdd,Nat.reduceLeDiff,fldP,zac,hg1,zaI,zai,dT,dF]|with_reducible first|intro _|refine aJ ?_)
  refine zao (zd hc1 (flX rfl)) ?_
  by_cases hf1:f1=0
  ·
   rw[if_neg (show ¬f1≠0 from fun h=>h hf1)] at hR;subst hR;have hap:=zCJ hop hrg0 hrg1
   (refine Qs ?_;intros)
   refine ze (zd hap rfl) ?_
   (refine QB ?_;intros)
   exact⟨_,zoY,rfl⟩
  ·
   rw[if_pos hf1] at hR;subst hR
   (refine Qap ?_;intros)
   exact⟨_,zoY,rfl⟩
 ·
  rw[if_pos hf0] at hR;subst hR
  (refine Qap ?_;intros)
  exact⟨_,zoY,rfl⟩
noncomputable def zk6 (m:Mem) (s:List Int) (e:Ex):Int × Int:=if zcs e≠0 then (0,zcs e) else zhI m s e
theorem zp9 {e:Ex} (h:zcs e=0):zdE e=true:=by
 unfold zcs at h;cases hf:zdE e
 ·
  rw[hf] at h;split at h
  · cases h
  · cases h
 · rfl
theorem Qaq {p q:Prop}(k:q)(h:Im q p:=by(repeat first|simp(disch:=try exact dis1) only[evD,Nat.reduceBEq,Nat.reduceAdd,Nat.reduceLeDiff,zac,zaI,zb,zai] | ((with_reducible apply Im.i);intro _) | ((with_reducible apply Im.a);omega));exact Im.r):p:=h k
theorem zwm (m:Mem) (s:List Int) (hm:m.ok) (e:Ex):zu Tryz.prog znO [.agg (encX e),stV s,memV m] (·=.tup [.int .u32 (zk6 m s e).1,.int .i64 (zk6 m s e).2]):=by
 refine fn_x zxe rfl ?_;unfold zpB zk6;have hB:=hBig;have hc:=zjo e;simp only[stV,memV]
 by_cases h:zcs e=0
 ·
  have hev:=zw4 m s hm (zbq e) e (Wk _) (zp9 h);simp only[stV,memV] at hev;rw[if_neg (show ¬zcs e≠0 from fun h2=>h2 h)];rw[h] at hc
  (refine Qaq ?_;intros)
  refine ze (zd hc (flX rfl)) ?_
  (repeat first|simp(disch:=try exact dis1) only[evD,Nat.reduceBEq,Nat.reduceAdd,Nat.reduceLeDiff,dF,zac,zaI,zb,zai]|with_reducible first|intro _|refine aJ ?_)
  refine ze (zd hev (flX rfl)) ?_
  (repeat first|simp(disch:=try exact dis1) only[evD,Nat.reduceBEq,Nat.reduceAdd,Nat.reduceLeDiff,zlN]|with_reducible first|intro _|refine aJ ?_)
  exact⟨_,zoY,rfl⟩
 ·
  rw[if_pos h]
  (refine Qaq ?_;intros)
  refine ze (zd hc (flX rfl)) ?_
  (repeat first|simp(disch:=try exact dis1) only[evD,Nat.reduceBEq,Nat.reduceAdd,Nat.reduceLeDiff,dT,zlN]|with_reducible first|intro _|refine aJ ?_)
  exact⟨_,zoY,rfl⟩
structure Pg where
 gs:List G
 secs:List Sct
 entry:Int
structure Fr where
 id:Nat
 g:Int
 b:Int
 a:Int
 vs:List Int
structure Rn where
 vs:List Int
 m:Mem
 tk:Int
 g:Int
 b:Int
 a:Int
 fr:List Fr
 err:Int
 out:List Int
 st:Int
 ov:Bool
structure Hd where
 tr:List Int
 gt:Nat
 go:Nat
 gc:Nat
 stale:List (List AV)
def rnC (p:Pg) (inp:List Int) (r:Rn) (h:Hd):List AV:=[encL 2 G.cells p.gs,encL 5 Sct.cells p.secs,.int .u32 p.entry,encL 1 cU r.vs,.bool true,encL 5 Sct.cells r.m.l,encL 2 celV r.m.c,encL 1 cU inp,.int .i64 r.tk,.int .i64 r.g,.int .i64 r.b,.int .i64 r.a,.own 3 0 h.gc 0 r.fr.length,.own 1 0 h.gt 0 h.tr.length,.int .i64 r.err,.own 2 0 h.go 0 r.out.length,.int .i64 r.st,.bool r.ov]
def Fr.cells (f:Fr):List AV:=[.int .i64 f.g,.int .i64 f.b,.int .i64 f.a,.own f.id 0 0 0 f.vs.length]
def rnH (p:Pg) (inp:List Int) (r:Rn) (h:Hd) (T:AH):AH:=(0,.row 18 [rnC p inp r h] 0)::(1,.row 1 (h.tr.map cU) h.gt)::(2,.row 1 (r.out.map cU) h.go)::(3,.row 4 (r.fr.map Fr.cells++h.stale) h.gc)::T
structure TOk (N:Nat) (T:AH):Prop where
 four:4≤N
 num:∀r o,T.look r=some o→4≤r∧r < N
 low:zet N T
 flt:∀r o,T.look r=some o→∃sz els g,o=.row sz els g∧zy els
structure FOk (T:AH) (fr:List Fr):Prop where
 row:∀f∈fr,T.look f.id=some (.row 1 (f.vs.map cU) 0)
 dis:(fr.map Fr.id).Nodup
theorem zjt {l:List Int}:∀c∈l.map cU,zM c=true:=fun c hc=>by obtain⟨a,_,rfl⟩:=WO.1 hc;rfl
theorem zyj {p:Pg} {inp:List Int} {r:Rn} {h:Hd} {T:AH} {N:Nat} (hT:TOk N T) (hF:FOk T r.fr) (hs:zy h.stale):zet N (rnH p inp r h T):=by
 have h4:=hT.four;refine⟨⟨by omega,?_⟩,⟨by omega,zb1 zjt⟩,⟨by omega,zb1 zjt⟩,⟨by omega,?_⟩,hT.low⟩
 ·
  intro c hc;rw[WP.1 hc]
  have e1:Wn 1 N=true:=by rw[Wf];omega
  have e2:Wn 2 N=true:=by rw[Wf];omega
  have e3:Wn 3 N=true:=by rw[Wf];omega
  simp only[rnC,Wq,WD,AV.lt0,encL,e1,e2,e3,WE]
 ·
  intro c hc
  rcases WQ.1 hc with hc|hc
  ·
   obtain⟨f,hf,rfl⟩:=WO.1 hc;have:=(hT.num _ _ (hF.row f hf)).2
   have e:Wn f.id N=true:=by rw[Wf];exact this
   simp only[Fr.cells,Wq,WD,AV.lt0,e,WE]
  · exact zsf (hs c hc)
theorem zH {a:Nat × AObj} {A B:AH} (h:∀r o,A.look r=some o→B.look r=some o):∀r o,AH.look (a::A) r=some o→AH.look (a::B) r=some o:=by
 intro r o;obtain⟨j,x⟩:=a;simp only[AH.look];cases Nat.beq j r
 · exact h r o
 · exact id
theorem ztp {T:AH} {N:Nat} {x:AObj} (h:T.look N=none):∀r o,T.look r=some o→(T.put N x).look r=some o:=by
 intro r o hr;rw[AH.look_put];split
 · rename_i e;rw[e,h] at hr;cases hr
 · exact hr
theorem zE {T:AH} {N:Nat} {x:AObj}:(T.put N x).look N=some x:=by rw[AH.look_put,if_pos rfl]
theorem zeK {n r sz g:Nat} {els:List (List AV)} (hr:r < n) (he:zk1 n els):∀ {T:AH},zet n T→zet n (T.put r (.row sz els g))
 | [],_=>⟨⟨hr,he⟩,trivial⟩
 |
  (j,.row s e g0)::t,h=>by
  simp only[AH.put];cases Nat.beq j r
  · exact⟨h.1,zeK hr he h.2⟩
  · exact⟨⟨hr,he⟩,h.2⟩
 |
  (j,.fam s ins)::t,h=>by
  simp only[AH.put];cases Nat.beq j r
  · exact⟨h.1,zeK hr he h.2⟩
  · exact⟨⟨hr,he⟩,h.2⟩
theorem TOk.put {N M r sz g:Nat} {T:AH} {els:List (List AV)} (h:TOk N T) (hm:zet M T) (hN:N≤M) (h4:4≤r) (hr:r < M) (he:∀c∈els,zM c=true):TOk M (T.put r (.row sz els g)):=by
 have:=h.four;refine⟨by omega,fun x o hx=>?_,zeK hr (zb1 he) hm,fun x o hx=>?_⟩
 ·
  rw[AH.look_put] at hx;split at hx
  · rename_i e;subst e;exact⟨h4,hr⟩
  · have:=h.num _ _ hx;exact⟨this.1,by omega⟩
 ·
  rw[AH.look_put] at hx;split at hx
  · cases hx;exact⟨_,_,_,rfl,he⟩
  · exact h.flt _ _ hx
theorem FOk.put {T:AH} {fr:List Fr} {r:Nat} {o:AObj} (h:FOk T fr) (hr:∀f∈fr,f.id≠r):FOk (T.put r o) fr :=
 ⟨fun f hf=>by rw[AH.look_put,if_neg (hr f hf)];exact h.row f hf,h.dis⟩
theorem zkS {n m:Nat} (h:n≤m) {els:List (List AV)} (he:zk1 n els):zk1 m els:=fun c hc=>by
 have:=he c hc;rw[WH] at this ⊢;intro a ha;have h1:=this a ha
 cases a<;>simp only[AV.lt0,Wf] at h1 ⊢<;>first|rfl|omega|cases h1
theorem zX {n m:Nat} (h:n≤m):∀ {T:AH},zet n T→zet m T
 | [],_=>trivial
 | (_,.row ..)::_,ht=>⟨⟨W3 ht.1.1 h,zkS h ht.1.2⟩,zX h ht.2⟩
 | (_,.fam ..)::_,ht=>⟨⟨W3 ht.1.1 h,fun p hp=>zkS h (ht.1.2 p hp)⟩,zX h ht.2⟩
theorem FOk.ne {N:Nat} {T:AH} {fr:List Fr} (h:FOk T fr) (hT:TOk N T) {r:Nat} (hr:N≤r):∀f∈fr,f.id≠r:=fun f hf=>by have:=(hT.num _ _ (h.row f hf)).2;omega
theorem zcy {a b c d:AObj} {T:AH} {x:Nat} (hx:4≤x):AH.look ((0,a)::(1,b)::(2,c)::(3,d)::T) x=T.look x:=by simp only[AH.look,zbK (show 0≠x by omega),zbK (show 1≠x by omega),zbK (show 2≠x by omega),zbK (show 3≠x by omega),cond_false]
theorem zmU {a b c d:AObj} {T:AH} {x sz g:Nat} {els:List (List AV)} (hx:4≤x) (h:T.look x=some (.row sz els g)):AH.get ((0,a)::(1,b)::(2,c)::(3,d)::T) x 0=some (.row sz els g):=by unfold AH.get;rw[zcy hx,h];rfl
theorem zc1 (p:Pg) (inp:List Int) (r:Rn) (h:Hd) (T:AH) (N:Nat) (e:Int):zad Tryz.prog z8 [.ptr 0 0 0 0 0,.int .i64 e] (rnH p inp r h T) N
  (fun v H nx=>v=.tup []∧H=rnH p inp { r with err:=e,ov:=true } h T∧nx=N):=by
 refine fn_x znk rfl ?_;unfold zie rnH rnC;have hB:=hBig
 (repeat first|simp(disch:=try exact dis1) only[evD,Nat.reduceBEq,Nat.reduceAdd,Nat.reduceLeDiff,zhQ]|with_reducible first|intro _|refine aJ ?_)
theorem zdT (p:Pg) (inp:List Int) (r:Rn) (h:Hd) (T:AH) (N:Nat) (b:Int) (g:Nat) (k:Nat) (hg:g < p.gs.length) (hrg:r.g=g) (hk:k < p.gs[g].blocks.length) (hb:b=k) (ht:h.tr.length≤100000) (hT:TOk N T) (hF:FOk T r.fr) (hst:zy h.stale):zad Tryz.prog zab [.ptr 0 0 0 0 0,.int .i64 b] (rnH p inp r h T) N
  (fun v H nx=>v=.tup []∧H=rnH p inp { r with b:=b,a:=0 } { h with tr:=h.tr++[p.gs[g].blocks[k].addr],gt:=h.gt+1 } T∧nx=N):=by
 refine zbc (fn_x zmd rfl ?_);unfold zgh rnH rnC;have hB:=hBig;have hg1:(p.gs.map G.cells).getD g []=[.int .u32 p.gs[g].addr,encL 2 Bl.cells p.gs[g].blocks]:=zq (f:=G.cells) (d:=[]) hg;have hg2:(p.gs[g].blocks.map Bl.cells).getD k []=[.int .u32 p.gs[g].blocks[k].addr,encL 8 St.cells p.gs[g].blocks[k].stmts]:=zq (f:=Bl.cells) (d:=[]) hk;have h4:=hT.four;have n0:(0 == N)=false:=beq_false_of_ne (by omega);have n1:(1 == N)=false:=beq_false_of_ne (by omega);have n2:(2 == N)=false:=beq_false_of_ne (by omega);have n3:(3 == N)=false:=beq_false_of_ne (by omega)
 have tN:T.look N=none:=by
  cases hl:T.look N with
  | none=>rfl
  | some o=>exact absurd (hT.num _ _ hl).2 (by omega)
 subst hb;rw[hrg];have ktr:(h.tr.map cU).take h.tr.length=h.tr.map cU:=WC (by simp)
 (refine Qa ?_;intros)
 refine zo2 zdZ ziS zh1 zc4 [(11,.ptr 0 0 0 0 0),(12,.ptr 0 0 0 0 0),(13,.ptr 0 0 0 0 0),(14,.ptr 0 0 0 0 13),(15,.own 1 0 h.gt 0 h.tr.length),(16,.ptr 0 0 0 0 0),(17,.ptr 0 0 0 0 0),(18,.ptr 0 0 0 0 0),(19,.ptr 0 0 0 0 0),(20,encL 2 G.cells p.gs),(21,.ptr 0 0 0 0 0),(22,.ptr 0 0 0 0 0),(23,.ptr 0 0 0 0 9),(24,.int .i64 g),(25,.iptr 2 fun j=>[AV.int .u32 p.gs[g].addr,encL 2 Bl.cells p.gs[g].blocks].getD j .undef),(26,.iptr 1 fun j=>[AV.int .u32 p.gs[g].addr,encL 2 Bl.cells p.gs[g].blocks].getD (1+j) .undef),(27,encL 2 Bl.cells p.gs[g].blocks),(28,.int .i64 k),(29,.iptr 2 fun j=>[AV.int .u32 p.gs[g].blocks[k].addr,encL 8 St.cells p.gs[g].blocks[k].stmts].getD j .undef),(30,.iptr 1 fun j=>[AV.int .u32 p.gs[g].blocks[k].addr,encL 8 St.cells p.gs[g].blocks[k].stmts].getD (0+j) .undef),(31,.int .u32 p.gs[g].blocks[k].addr),(32,.own N 0 0 0 1),(33,.own 1 0 (h.gt+1) 0 (h.tr.length+1)),(34,.ptr 0 0 0 0 0),(35,.ptr 0 0 0 0 13)] (hsOf [((0,.row 18 [[encL 2 G.cells p.gs,encL 5 Sct.cells p.secs,.int .u32 p.entry,encL 1 cU r.vs,.bool true,encL 5 Sct.cells r.m.l,encL 2 celV r.m.c,encL 1 cU inp,.int .i64 r.tk,.int .i64 g,.int .i64 k,.int .i64 0,.own 3 0 h.gc 0 r.fr.length,.own 1 0 h.gt 0 h.tr.length,.int .i64 r.err,.own 2 0 h.go 0 r.out.length,.int .i64 r.st,.bool r.ov]] 0)::(1,.row 1 (h.tr.map cU) h.gt)::(2,.row 1 (r.out.map cU) h.go)::(3,.row 4 (r.fr.map Fr.cells++h.stale) h.gc)::T,N),((0,.row 18 [[encL 2 G.cells p.gs,encL 5 Sct.cells p.secs,.int .u32 p.entry,encL 1 cU r.vs,.bool true,encL 5 Sct.cells r.m.l,encL 2 celV r.m.c,encL 1 cU inp,.int .i64 r.tk,.int .i64 g,.int .i64 k,.int .i64 0,.own 3 0 h.gc 0 r.fr.length,.own 1 0 h.gt 0 h.tr.length,.int .i64 r.err,.own 2 0 h.go 0 r.out.length,.int .i64 r.st,.bool r.ov]] 0)::(1,.row 1 (h.tr.map cU) h.gt)::(2,.row 1 (r.out.map cU) h.go)::(3,.row 4 (r.fr.map Fr.cells++h.stale) h.gc)::T.put N (.row 1 [[.int .u32 p.gs[g].blocks[k].addr]] 0),N+1),((0,.row 18 [[encL 2 G.cells p.gs,encL 5 Sct.cells p.secs,.int .u32 p.entry,encL 1 cU r.vs,.bool true,encL 5 Sct.cells r.m.l,encL 2 celV r.m.c,encL 1 cU inp,.int .i64 r.tk,.int .i64 g,.int .i64 k,.int .i64 0,.own 3 0 h.gc 0 r.fr.length,.own 1 0 h.gt 0 h.tr.length,.int .i64 r.err,.own 2 0 h.go 0 r.out.length,.int .i64 r.st,.bool r.ov]] 0)::(1,.row 1 (h.tr.map cU++[[.int .u32 p.gs[g].blocks[k].addr]]) (h.gt+1))::(2,.row 1 (r.out.map cU) h.go)::(3,.row 4 (r.fr.map Fr.cells++h.stale) h.gc)::T.put N (.row 1 [[.int .u32 p.gs[g].blocks[k].addr]] 0),N+1),((0,.row 18 [[encL 2 G.cells p.gs,encL 5 Sct.cells p.secs,.int .u32 p.entry,encL 1 cU r.vs,.bool true,encL 5 Sct.cells r.m.l,encL 2 celV r.m.c,encL 1 cU inp,.int .i64 r.tk,.int .i64 g,.int .i64 k,.int .i64 0,.own 3 0 h.gc 0 r.fr.length,.own 1 0 (h.gt+1) 0 (h.tr.length+1),.int .i64 r.err,.own 2 0 h.go 0 r.out.length,.int .i64 r.st,.bool r.ov]] 0)::(1,.row 1 (h.tr.map cU++[[.int .u32 p.gs[g].blocks[k].addr]]) (h.gt+1))::(2,.row 1 (r.out.map cU) h.go)::(3,.row 4 (r.fr.map Fr.cells++h.stale) h.gc)::T.put N (.row 1 [[.int .u32 p.gs[g].blocks[k].addr]] 0),N+1)]) (by kernel_rfl) (by rfl) (by rfl) (by repeat' first|exact QExt.retK|apply QExt.seq|apply QExt.block|apply QExt.loop|apply QExt.join|assumption) ?plan [] (by rfl) ?fin
 case' plan =>
  intro Kf hs hK hH
  have kf11:Kf.get 11=.ptr 0 0 0 0 0:=by rw[hK,zc];rfl
  have kf12:Kf.get 12=.ptr 0 0 0 0 0:=by rw[hK,zc];rfl
  have kf13:Kf.get 13=.ptr 0 0 0 0 0:=by rw[hK,zc];rfl
  have kf14:Kf.get 14=.ptr 0 0 0 0 13:=by rw[hK,zc];rfl
  have kf15:Kf.get 15=.own 1 0 h.gt 0 h.tr.length:=by rw[hK,zc];rfl
  have kf16:Kf.get 16=.ptr 0 0 0 0 0:=by rw[hK,zc];rfl
  have kf17:Kf.get 17=.ptr 0 0 0 0 0:=by rw[hK,zc];rfl
  have kf18:Kf.get 18=.ptr 0 0 0 0 0:=by rw[hK,zc];rfl
  have kf19:Kf.get 19=.ptr 0 0 0 0 0:=by rw[hK,zc];rfl
  have kf20:Kf.get 20=encL 2 G.cells p.gs:=by rw[hK,zc];rfl
  have kf21:Kf.get 21=.ptr 0 0 0 0 0:=by rw[hK,zc];rfl
  have kf22:Kf.get 22=.ptr 0 0 0 0 0:=by rw[hK,zc];rfl
  have kf23:Kf.get 23=.ptr 0 0 0 0 9:=by rw[hK,zc];rfl
  have kf24:Kf.get 24=.int .i64 g:=by rw[hK,zc];rfl
  have kf25:Kf.get 25=.iptr 2 fun j=>[AV.int .u32 p.gs[g].addr,encL 2 Bl.cells p.gs[g].blocks].getD j .undef:=by rw[hK,zc];rfl
  have kf26:Kf.get 26=.iptr 1 fun j=>[AV.int .u32 p.gs[g].addr,encL 2 Bl.cells p.gs[g].blocks].getD (1+j) .undef:=by rw[hK,zc];rfl
  have kf27:Kf.get 27=encL 2 Bl.cells p.gs[g].blocks:=by rw[hK,zc];rfl
  have kf28:Kf.get 28=.int .i64 k:=by rw[hK,zc];rfl
  have kf29:Kf.get 29=.iptr 2 fun j=>[AV.int .u32 p.gs[g].blocks[k].addr,encL 8 St.cells p.gs[g].blocks[k].stmts].getD j .undef:=by rw[hK,zc];rfl
  have kf30:Kf.get 30=.iptr 1 fun j=>[AV.int .u32 p.gs[g].blocks[k].addr,encL 8 St.cells p.gs[g].blocks[k].stmts].getD (0+j) .undef:=by rw[hK,zc];rfl
  have kf31:Kf.get 31=.int .u32 p.gs[g].blocks[k].addr:=by rw[hK,zc];rfl
  have kf32:Kf.get 32=.own N 0 0 0 1:=by rw[hK,zc];rfl
  have kf33:Kf.get 33=.own 1 0 (h.gt+1) 0 (h.tr.length+1):=by rw[hK,zc];rfl
  have kf34:Kf.get 34=.ptr 0 0 0 0 0:=by rw[hK,zc];rfl
  have kf35:Kf.get 35=.ptr 0 0 0 0 13:=by rw[hK,zc];rfl
  have kf0:Kf.get 0=.ptr 0 0 0 0 0:=by rw[hK,zc];rfl
  have kf1:Kf.get 1=.int .i64 k:=by rw[hK,zc];rfl
  simp only[zc4,zkF,zm2,and_true]
  (repeat' with_reducible apply We)
  all_goals (rw[hH];simp only[zmt,zde,WG,WF,hsOf,hsAt,beqL,ze3,Nat.reduceBEq,Bool.and_true,Wp,Bool.and_false,Wo,cond_true,cond_false,Wv,List.length_nil,Nat.reduceAdd])
  all_goals try (simp(disch:=try exact dis1) only[evD,Nat.reduceBEq,Nat.reduceAdd,Nat.reduceLeDiff,zdm,zcW,kf11,kf12,kf13,kf14,kf15,kf16,kf17,kf18,kf19,kf20,kf21,kf22,kf23,kf24,kf25,kf26,kf27,kf28,kf29,kf30,kf31,kf32,kf33,kf34,kf35,kf0,kf1,Wz,hg1,hg2,hrg,ktr,n0,n1,n2,n3,tN,zaH,zE];done)
 case' fin=>simp only[zdZ,hsOf,hsAt,beqL,ze3,Nat.reduceBEq,Bool.and_true,Wp,Bool.and_false,Wo,cond_true,cond_false,Wv,List.length_nil,Nat.reduceAdd,WG,WF,zap]
 ·
  (repeat first|simp(disch:=try exact dis1) only[evD,Nat.reduceBEq,Nat.reduceAdd,Nat.reduceLeDiff,zgy]|with_reducible first|intro _|refine aJ ?_)
  refine⟨_,_,N,Ent.low (K2:=[(0,.tup [])]) (Wk _) (H2:=rnH p inp { r with b:=k,a:=0 } { h with tr:=h.tr++[p.gs[g].blocks[k].addr],gt:=h.gt+1 } T) ?_ (zyj hT hF hst) ?_,rfl,?_,rfl⟩
  · unfold rnH rnC;simp only[Wl,WL,WM,Wi,WN,hrg];exact zH (zH (zH (zH (ztp tN))))
  · exact⟨⟨rfl,rfl⟩,trivial⟩
  · unfold rnH rnC;rw[hrg]
 all_goals (repeat first|simp(disch:=try exact dis1) only[evD,Nat.reduceBEq,Nat.reduceAdd,Nat.reduceLeDiff,kf15,kf20,kf24,kf25,kf27,kf28,kf29,kf31,kf32,kf33,ktr,Wz,hg1,hg2,zdm,n0,n1,n2,n3,tN,zaH,zE]|with_reducible first|intro _|refine aJ ?_)
 all_goals first|omega|trace_state
noncomputable def zae (m:Mem) (vs:List Int):List Ex→List Int→List Int × Int
 | [],acc=>(acc,0)
 | e::l,acc=>if (zk6 m vs e).2≠0 then ([],(zk6 m vs e).2) else zae m vs l (acc++[(zk6 m vs e).1])
theorem ztT (p:Pg) (inp:List Int) (r:Rn) (h:Hd) (T:AH) (N:Nat) (s:St) (hm:r.m.ok) (hT:TOk N T) (hF:FOk T r.fr) (hst:zy h.stale) (he:s.e.length≤1000):zad Tryz.prog zdB [.ptr 0 0 0 0 0,.agg s.cells] (rnH p inp r h T) N
  (fun v H nx=>v=.tup [encL 1 cU (zae r.m r.vs s.e []).1,.int .i64 (zae r.m r.vs s.e []).2]∧H=rnH p inp r h T∧nx=N):=by
 refine zbc (fn_x zkY rfl ?_);unfold zfH;have hB:=hBig;have h4:=hT.four;have n0:(0 == N)=false:=beq_false_of_ne (by omega);have n1:(1 == N)=false:=beq_false_of_ne (by omega);have n2:(2 == N)=false:=beq_false_of_ne (by omega);have n3:(3 == N)=false:=beq_false_of_ne (by omega);have m0:(0 == N+1)=false:=beq_false_of_ne (by omega);have m1:(1 == N+1)=false:=beq_false_of_ne (by omega);have m2:(2 == N+1)=false:=beq_false_of_ne (by omega);have m3:(3 == N+1)=false:=beq_false_of_ne (by omega)
 have tn:∀x,N≤x→T.look x=none:=fun x hx=>by
  cases hl:T.look x with
  | none=>rfl
  | some o=>exact absurd (hT.num _ _ hl).2 (by omega)
 have tN:=tn N (Wk _)
 have tM:(T.put N (.row 1 [] 0)).look (N+1)=none:=by rw[AH.look_put,if_neg (by omega)];exact tn _ (by omega)
 have hT1:TOk (N+1) (T.put N (.row 1 [] 0)):=hT.put (zX (by omega) hT.low) (by omega) h4 (by omega) (by simp);have hF1:FOk (T.put N (.row 1 [] 0)) r.fr:=hF.put (hF.ne hT (Wk _))
 have hT2:∀(acc:List Int) (g:Nat),TOk (N+2) ((T.put N (.row 1 [] 0)).put (N+1) (.row 1 (acc.map cU) g)):=fun acc g=>hT1.put (zX (by omega) hT1.low) (by omega) (by omega) (by omega) zjt
 have hF2:∀(acc:List Int) (g:Nat),FOk ((T.put N (.row 1 [] 0)).put (N+1) (.row 1 (acc.map cU) g)) r.fr:=fun acc g=>hF1.put (hF1.ne hT1 (Wk _))
 generalize hR:zae r.m r.vs s.e []=R;obtain⟨op,var,width,next,els,tgt,e,cs⟩:=s;simp only at hR he;unfold rnH rnC
 (repeat first|simp(disch:=try exact dis1) only[evD,Nat.reduceBEq,Nat.reduceAdd,Nat.reduceLeDiff,St.cells,za,n0,n1,n2,n3,m0,m1,m2,m3,tN,tM]|with_reducible first|intro _|refine aJ ?_)
 refine zk (fun x:Nat × List Int × Nat=>([(0,.ptr 0 0 0 0 0),(3,encP 8 (St.cells ⟨op,var,width,next,els,tgt,e,cs⟩)),(6,.own (N+1) 0 x.2.2 0 x.2.1.length),(7,.int .i64 x.1)],rnH p inp r h ((T.put N (.row 1 [] 0)).put (N+1) (.row 1 (x.2.1.map cU) x.2.2)))) (N+2) (fun x=>x.1≤e.length∧x.2.1.length=x.1∧zae r.m r.vs (e.drop x.1) x.2.1=R) (fun x=>e.length - x.1) (0,[],0) ⟨Wb _,rfl,hR⟩ (Ent.keepN (by omega) ⟨rfl,rfl,rfl,rfl,trivial⟩) ?_;rintro⟨i,acc,g⟩ ⟨hi,hlen,hgo⟩ wf;simp only at hi hlen hgo;unfold zef
 by_cases hil:i < e.length
 ·
  have hg:(e.map encX).getD i []=encX e[i]:=zq (f:=encX) (d:=[]) hil;have hex:=zwm r.m r.vs hm e[i];rw[Wh hil,zae] at hgo;generalize zk6 r.m r.vs e[i]=A at hex hgo;simp only[stV,memV] at hex;unfold rnH rnC
  (repeat first|simp(disch:=try exact dis1) only[evD,Nat.reduceBEq,Nat.reduceAdd,Nat.reduceLeDiff,St.cells,fldP,dT,hg,zaI,zb,zai,zbf,zE,zr,tn]|with_reducible first|intro _|refine aJ ?_)
  refine zao (zd hex (flX rfl)) ?_
  by_cases hz:A.2=0
  ·
   rw[if_neg (show ¬A.2≠0 from fun h=>h hz)] at hgo;have k1:(acc.map cU).take acc.length=acc.map cU:=WC (by simp)
   (repeat first|simp(disch:=try exact dis1) only[evD,Nat.reduceBEq,Nat.reduceAdd,Nat.reduceLeDiff,dF,k1,zbf,zE,zr,tn]|with_reducible first|intro _|refine aJ ?_)
   refine⟨(i+1,acc++[A.1],g+1),⟨by show i+1≤e.length;omega,by simp[hlen],hgo⟩,by show e.length - (i+1) < e.length - i;omega,?_⟩;refine Ent.low (H2:=rnH p inp r h ((T.put N (.row 1 [] 0)).put (N+1) (.row 1 ((acc++[A.1]).map cU) (g+1)))) (by omega) ?_ (zyj (hT2 _ _) (hF2 _ _) hst) ?_
   ·
    unfold rnH rnC;refine zH (zH (zH (zH fun x o=>?_)));simp only[AH.look_put,WM,Wi,WN,cU]
    by_cases x1:x=N+1
    · rw[if_pos x1,if_pos x1];exact id
    rw[if_neg x1,if_neg x1,if_neg x1]
    by_cases x2:x=N+2
    · rw[if_neg (by omega),tn x (by omega)];intro h;cases h
    · rw[if_neg x2];exact id
   · exact⟨⟨rfl,rfl⟩,⟨rfl,rfl⟩,⟨by rw[Wl];rfl,by simp[AV.lt1,AV.lt0,Wf]⟩,⟨rfl,rfl⟩,trivial⟩
  ·
   rw[if_pos hz] at hgo;subst hgo
   (repeat first|simp(disch:=try exact dis1) only[evD,Nat.reduceBEq,Nat.reduceAdd,Nat.reduceLeDiff,dT,zc5,zbf,zE,zr,tn]|with_reducible first|intro _|refine aJ ?_)
   refine⟨_,_,N,Ent.lowF (K2:=[(0,.tup [encL 1 cU [],.int .i64 A.2])]) (Wk _) (H2:=rnH p inp r h T) ?_ (zyj hT hF hst) ⟨zka (vw_U (l:=[]) (W4 N 2) ?_ (by decide)),trivial⟩,rfl,rfl,rfl⟩
   · unfold rnH rnC;exact zH (zH (zH (zH fun x o hx=>by rw[AH.look_put,AH.look_put,AH.look_put,if_neg,if_neg,if_neg,hx]<;>(have:=(hT.num _ _ hx).2;omega))))
   · exact zmU (by omega) zE
 ·
  rw[Wj (by omega),zae] at hgo;subst hgo
  (repeat first|simp(disch:=try exact dis1) only[evD,Nat.reduceBEq,Nat.reduceAdd,Nat.reduceLeDiff,St.cells,fldP,dF]|with_reducible first|intro _|refine aJ ?_)
  unfold zed
  (repeat first|simp(disch:=try exact dis1) only[evD,Nat.reduceBEq,Nat.reduceAdd,Nat.reduceLeDiff,zc5]|with_reducible first|intro _|refine aJ ?_)
  refine⟨_,_,N,Ent.lowF (K2:=[(0,.tup [encL 1 cU acc,.int .i64 0])]) (Wk _) (H2:=rnH p inp r h T) ?_ (zyj hT hF hst) ⟨zka (vw_U (W4 N 1) ?_ (by omega)),trivial⟩,rfl,rfl,rfl⟩
  · unfold rnH rnC;exact zH (zH (zH (zH fun x o hx=>by rw[AH.look_put,AH.look_put,if_neg,if_neg,hx]<;>(have:=(hT.num _ _ hx).2;omega))))
  · exact zmU (by omega) zE
def Pg.cells (p:Pg):List AV:=[encL 2 G.cells p.gs,encL 5 Sct.cells p.secs,.int .u32 p.entry]
def zba (a:Int):List G→Int→Int
 | [],_ => -1
 | g::l,i=>if g.addr=a then i else zba a l (i+1)
theorem zAg {l:List G} {i:Nat} {j a:Int} (h:i < l.length):zba a (l.drop i) j=if l[i].addr=a then j else zba a (l.drop (i+1)) (j+1):=by rw[Wh h,zba]
theorem zhT (a:Int):∀(l:List G) (i:Int),zba a l i = -1∨∃k:Nat,∃hk:k < l.length,zba a l i=i+k∧l[k].addr=a
 | [],_=>Wm rfl
 |
  s::l,i=>by
  unfold zba
  by_cases h:s.addr=a
  · rw[if_pos h];exact Wc ⟨0,WU _,by omega,h⟩
  ·
   rw[if_neg h]
   rcases zhT a l (i+1) with h1 | ⟨k,hk,h1,h2⟩
   · exact Wm h1
   · exact Wc ⟨k+1,WV hk,by omega,h2⟩
theorem zlU (p:Pg) (a:Int) (hn:p.gs.length≤100000):zu Tryz.prog zf3 [.agg p.cells,.int .u32 a] (·=.int .i64 (zba a p.gs 0)):=by
 refine fn_x zwn rfl ?_;unfold zq4;have hB:=hBig;generalize hR:zba a p.gs 0=R;obtain⟨l,secs,entry⟩:=p;simp only at hR hn;simp only[Pg.cells]
 (refine Qa ?_;intros)
 refine zk (fun i:Nat=>([(1,.int .u32 a),(2,encP 3 [encL 2 G.cells l,encL 5 Sct.cells secs,.int .u32 entry]),(5,.int .i64 i)],[])) 0 (fun i=>i≤l.length∧zba a (l.drop i) i=R) (fun i=>l.length - i) 0 ⟨Wb _,hR⟩ (Ent.keep rfl fin5) ?_;rintro i ⟨hi,hgo⟩ wf;unfold zlg
 by_cases hil:i < l.length
 ·
  have hg:(l.map G.cells).getD i []=[.int .u32 l[i].addr,encL 2 Bl.cells l[i].blocks]:=zq (f:=G.cells) (d:=[]) hil;rw[zAg hil] at hgo
  by_cases h1:l[i].addr=a
  ·
   rw[if_pos h1] at hgo
   (repeat first|simp(disch:=try exact dis1) only[evD,Nat.reduceBEq,Nat.reduceAdd,Nat.reduceLeDiff,fldP,dT,hg,zmf]|with_reducible first|intro _|refine aJ ?_)
   exact⟨_,.int _ _ _,by rw[hgo]⟩
  ·
   rw[if_neg h1] at hgo
   (repeat first|simp(disch:=try exact dis1) only[evD,Nat.reduceBEq,Nat.reduceAdd,Nat.reduceLeDiff,fldP,dT,dF,hg]|with_reducible first|intro _|refine aJ ?_)
   exact⟨i+1,⟨by omega,hgo⟩,by omega,Ent.keep rfl fin5⟩
 ·
  rw[Wj (by omega),zba] at hgo;rw[←hgo]
  (refine Qh ?_;intros)
  unfold zlG
  (repeat first|simp(disch:=try exact dis1) only[evD,Nat.reduceBEq,Nat.reduceAdd,Nat.reduceLeDiff,zmf]|with_reducible first|intro _|refine aJ ?_)
  exact⟨_,.int _ _ _,rfl⟩
def sg (s:Nat→Option Nat):Nat→Nat→Option (Nat × Nat × Nat):=fun r q=>(s r).map fun x=>(x,q,0)
theorem zcN {s:Nat→Option Nat} {r x:Nat} (h:s r=some x) (q:Nat):sg s r q=some (x,q,0):=by unfold sg;rw[h];rfl
theorem Ent.vs {B nx nx2:Nat} {K K2:Kn} {H H2:AH} (s:Nat→Option Nat) (D:Nat→Prop) (hB:B≤nx2)
  (hb:∀r,r < B→s r=some r∨(s r=none∧H2.look r=none))
  (inj:∀r1 r2 x,s r1=some x→s r2=some x→r1=r2) (apart:∀r x,s r=some x→¬D x) (idx:∀r x,s r=some x→r < nx2)
  (row:∀r o2,H2.look r=some o2→∃x sz els els2 g,s r=some x∧H.look x=some (.row sz els g)∧o2=.row sz els2 g∧RowV H H2 (sg s) (fun r _=>D r) els els2)
  (hK:zyB H H2 (sg s) (fun r _=>D r) K2 K):Ent B K H nx K2 H2 nx2:=by
 refine Ent.viewL (sg s) (fun r _=>D r) ⟨Wb _,fun r q h=>absurd h (by omega),?_,?_,?_,?_,?_⟩ hB ?_ (zig hK)
 · intro r1 q1 r2 q2 r q d1 d2 h1 h2;obtain⟨x1,e1,f1⟩:=Ws.1 h1;obtain⟨x2,e2,f2⟩:=Ws.1 h2;cases f1;cases f2;exact⟨inj _ _ _ e1 e2,rfl⟩
 · intro r' q' r q d h;obtain⟨x1,e1,f1⟩:=Ws.1 h;cases f1;exact apart _ _ e1
 · intro r' q' x h;obtain⟨x1,e1,f1⟩:=Ws.1 h;exact idx _ _ e1
 · intro r o h;obtain⟨x,_,_,_,_,h1,_⟩:=row r o h;exact idx _ _ h1
 ·
  intro r q sz els2 g h;unfold AH.get at h;obtain⟨o,h1,h2⟩:=Option.bind_eq_some_iff.1 h;obtain⟨x,sz',els,els2',g',e1,e2,e3,e4⟩:=row r o h1;subst e3
  cases q with
  |
   zero =>
   simp only[AObj.part,WJ,AObj.row.injEq] at h2;obtain⟨rfl,rfl,rfl⟩:=h2;refine .inl ⟨x,0,0,els,by unfold sg;rw[e1];rfl,?_,e4⟩;unfold AH.get;rw[e2];rfl
  | succ q=>simp[AObj.part] at h2
 ·
  intro r q hr
  rcases hb r hr with h | ⟨h1,h2⟩
  · exact .inl (by unfold sg;rw[h];rfl)
  · exact .inr ⟨by unfold sg;rw[h1];rfl,h2⟩
theorem zgr {n:Nat} {l:List Nat}:∀ {T:AH},zet n T→zet n (T.cutL l)
 | [],_=>trivial
 |
  (j,.row s e g0)::t,h=>by
  simp only[AH.cutL];cases memN l j
  · exact⟨h.1,zgr h.2⟩
  · exact zgr h.2
 |
  (j,.fam s ins)::t,h=>by
  simp only[AH.cutL];cases memN l j
  · exact⟨h.1,zgr h.2⟩
  · exact zgr h.2
theorem zhP (T:AH) (i x:Nat):(T.cutL [i]).look x=if x=i then none else T.look x:=by
 rw[AH.look_cutL]
 by_cases h:x=i
 · subst h;simp[memN]
 · rw[if_neg h];simp[memN,zbK (Ne.symm h),zbK h]
theorem TOk.cut {N:Nat} {T:AH} (h:TOk N T) (i:Nat):TOk N (T.cutL [i]):=by
 refine⟨h.four,fun r o hr=>?_,zgr h.low,fun r o hr=>?_⟩
 ·
  rw[zhP] at hr;split at hr
  · cases hr
  · exact h.num _ _ hr
 ·
  rw[zhP] at hr;split at hr
  · cases hr
  · exact h.flt _ _ hr
theorem zCL {p:Pg} {inp:List Int} {r:Rn} {h:Hd} {T:AH} {N:Nat} (h4:4≤N) (hT:zet N T) (hF:∀f∈r.fr,f.id < N) (hs:zk1 N h.stale):zet N (rnH p inp r h T):=by
 refine⟨⟨by omega,?_⟩,⟨by omega,zb1 zjt⟩,⟨by omega,zb1 zjt⟩,⟨by omega,?_⟩,hT⟩
 ·
  intro c hc;rw[WP.1 hc]
  have e1:Wn 1 N=true:=by rw[Wf];omega
  have e2:Wn 2 N=true:=by rw[Wf];omega
  have e3:Wn 3 N=true:=by rw[Wf];omega
  simp only[rnC,Wq,WD,AV.lt0,encL,e1,e2,e3,WE]
 ·
  intro c hc
  rcases WQ.1 hc with hc|hc
  ·
   obtain⟨f,hf,rfl⟩:=WO.1 hc
   have e:Wn f.id N=true:=by rw[Wf];exact hF f hf
   simp only[Fr.cells,Wq,WD,AV.lt0,e,WE]
  · exact hs c hc
theorem zkO {f:Fr} {N:Nat} (h:f.id < N) {l:List (List AV)} (hl:zk1 N l):zk1 N (Fr.cells f::l):=by
 have e:Wn f.id N=true:=by rw[Wf];exact h
 rw[zz6];exact⟨by simp only[Fr.cells,Wq,WD,AV.lt0,e,WE],hl⟩
section
variable {H H2:AH} {σ:Nat→Nat→Option (Nat × Nat × Nat)} {D:Nat→Nat→Prop}
theorem zgq {t:Bool}:∀ {l m:List AV},VwL H H2 σ D t l m→m.length=l.length∧∀(j:Nat) (a b:AV),l[j]? = some a→m[j]? = some b→Vw H H2 σ D t a b
 | [],[],_=>⟨rfl,fun j a b h=>by simp at h⟩
 | [],_::_,h=>h.elim
 | _::_,[],h=>h.elim
 |
  x::l,y::m,h=>by
  obtain⟨h1,h2⟩:=zgq h.2;refine⟨by simp[h1],fun j a b ha hb=>?_⟩
  cases j with
  | zero=>cases ha;cases hb;exact h.1
  | succ j=>exact h2 j a b ha hb
theorem zgg {c c2:List AV} {l m:List (List AV)} (h:VwL H H2 σ D true c c2) (h2:RowV H H2 σ D l m):RowV H H2 σ D (c::l) (c2::m):=by
 obtain⟨h1,h3⟩:=zgq h;refine⟨by simp[h2.1],fun i d hd=>?_⟩
 cases i with
 | zero=>cases hd;exact⟨c,rfl,h1,h3⟩
 | succ i=>exact h2.2 i d hd
theorem ziY:RowV H H2 σ D [] []:=⟨rfl,fun i c h=>by simp at h⟩
theorem zo7 {st st2:List (List AV)} (hs:RowV H H2 σ D st st2):∀ {fs fs2:List Fr},fs.length=fs2.length→(∀(i:Nat) (f f2:Fr),fs[i]? = some f→fs2[i]? = some f2→σ f2.id 0=some (f.id,0,0)∧f2={ f with id:=f2.id })→RowV H H2 σ D (fs.map Fr.cells++st) (fs2.map Fr.cells++st2)
 | [],[],_,_=>hs
 | [],_::_,h,_=>by cases h
 | _::_,[],h,_=>by cases h
 |
  f::fs,f2::fs2,hl,h=>by
  obtain⟨h1,h2⟩:=h 0 f f2 rfl rfl;refine zgg ?_ (zo7 hs (by simpa using hl) fun i a b ha hb=>h (i+1) a b ha hb);rw[h2];exact⟨.int _ _ _,.int _ _ _,.int _ _ _,.own _ _ _ _ _ _ _ _ _ h1 rfl,trivial⟩
end
theorem zGN {p:Pg} {inp:List Int} {r2:Rn} {h2:Hd} {H T2:AH} {s:Nat→Option Nat} {D:Nat→Prop} {c0:List AV} {e3:List (List AV)} (s0:s 0=some 0) (s1:s 1=some 1) (s2:s 2=some 2) (s3:s 3=some 3)
  (l0:H.look 0=some (.row 18 [c0] 0)) (l1:H.look 1=some (.row 1 (h2.tr.map cU) h2.gt)) (l2:H.look 2=some (.row 1 (r2.out.map cU) h2.go)) (l3:H.look 3=some (.row 4 e3 h2.gc))
  (v0:VwL H (rnH p inp r2 h2 T2) (sg s) (fun r _=>D r) true c0 (rnC p inp r2 h2)) (v3:RowV H (rnH p inp r2 h2 T2) (sg s) (fun r _=>D r) e3 (r2.fr.map Fr.cells++h2.stale))
  (hT:∀r o,T2.look r=some o→∃x sz els g,s r=some x∧H.look x=some (.row sz els g)∧o=.row sz els g∧zy els) :
  ∀r o2,(rnH p inp r2 h2 T2).look r=some o2→∃x sz els els2 g,s r=some x∧H.look x=some (.row sz els g)∧o2=.row sz els2 g∧RowV H (rnH p inp r2 h2 T2) (sg s) (fun r _=>D r) els els2:=by
 intro r o2 ho
 match r with
 | 0=>cases ho;exact⟨0,_,_,_,_,s0,l0,rfl,zgg v0 ziY⟩
 | 1=>cases ho;exact⟨1,_,_,_,_,s1,l1,rfl,.of_flat zjt⟩
 | 2=>cases ho;exact⟨2,_,_,_,_,s2,l2,rfl,.of_flat zjt⟩
 | 3=>cases ho;exact⟨3,_,_,_,_,s3,l3,rfl,v3⟩
 |
  r+4 =>
  unfold rnH at ho;rw[zcy (by omega)] at ho;obtain⟨x,sz,els,g,h1,h2,h3,h4⟩:=hT _ _ ho;exact⟨x,sz,els,els,g,h1,h2,h3,.of_flat h4⟩
theorem zar {T:AH} {r:Nat} {a b:AObj}:(T.put r a).put r b=T.put r b:=by
 induction T with
 | nil=>simp[AH.put]
 |
  cons p t ih =>
  obtain⟨j,u⟩:=p;simp only[AH.put]
  cases hb:Nat.beq j r with
  | true=>simp[AH.put]
  | false=>simp only[cond_false,AH.put,hb,ih]
def zk0 (p:Pg) (inp:List Int) (h:Hd) (T:AH) (fr:List Fr) (N:Nat) (R:Rn) (v:AV) (H:AH) (nx:Nat):Prop:=v=.tup []∧N≤nx∧∃h2 T2,H=rnH p inp R h2 T2∧TOk nx T2∧FOk T2 R.fr∧zy h2.stale∧h2.tr.length≤h.tr.length+1∧∀x,x < N→(∀f∈fr,f.id≠x)→T2.look x=T.look x
def zrk (r:Rn):Rn:=match r.fr.getLast? with
 | none=>{ r with err:=0,ov:=true }
 | some f=>{ r with fr:=r.fr.dropLast,vs:=r.vs.take 12++f.vs.drop 12,g:=f.g,b:=f.b,a:=f.a }
theorem TOk.none {T:AH} {N:Nat} (hT:TOk N T):∀x,N≤x→T.look x=none:=fun x hx=>by
 cases hl:T.look x with
 | none=>rfl
 | some o=>exact absurd (hT.num _ _ hl).2 (by omega)
def endR (r:Rn) (e:Int):Rn:={ r with err:=e,ov:=true }
def zhh (r:Rn) (b:Int):Rn:={ r with b:=b,a:=0 }
def zrA (p:Pg) (N:Nat) (r:Rn) (t:Int):Rn :=
 if zba t p.gs 0 < 0 then endR r 17 else if 256≤r.fr.length then endR r 20 else
 zhh { r with fr:=r.fr++[⟨N,r.g,r.b,r.a,r.vs⟩],vs:=r.vs.take 12,g:=zba t p.gs 0 } 0
noncomputable def zeq (p:Pg) (inp:List Int) (N:Nat) (r:Rn) (s:St) (v:List Int):Rn :=
 if s.op=1 then { r with vs:=setR r.vs s.var (v.getD 0 0) }
 else if s.op=2 then (if (zfy r.m (v.getD 0 0) s.width (v.getD 1 0)).2≠0 then endR r (zfy r.m (v.getD 0 0) s.width (v.getD 1 0)).2 else { r with m:=(zfy r.m (v.getD 0 0) s.width (v.getD 1 0)).1 })
 else if s.op=3 then (if inp.length≤r.tk then endR r 14 else { r with vs:=setR r.vs s.var (inp.getD r.tk.toNat 0),tk:=r.tk+1 })
 else if s.op=4 then { r with out:=r.out++[v.getD 0 0] }
 else if s.op=5 then zrA p N r s.tgt
 else if s.op=6 then zhh r s.next
 else if s.op=7 then (if v.getD 0 0≠0 then zhh r s.next else zhh r s.els)
 else if s.op=8 then (if s.cases.length≤v.getD 0 0 then endR r 7 else zhh r (s.cases.getD (v.getD 0 0).toNat 0))
 else if s.op=9 then zrk r
 else if s.op=10 then endR r 0
 else r
def z7 (r:Rn):Rn:={ r with a:=r.a+1,st:=r.st+1 }
noncomputable def zhK (p:Pg) (inp:List Int) (N:Nat) (r:Rn) (s:St):Rn :=
 if s.op=4∧4096≤r.out.length then endR (z7 r) 6
 else if (zae r.m r.vs s.e []).2≠0 then endR (z7 r) (zae r.m r.vs s.e []).2
 else zeq p inp N (z7 r) s (zae r.m r.vs s.e []).1
def zsR (p:Pg) (g:Int):List Bl:=(p.gs.getD g.toNat ⟨0,[]⟩).blocks
def zhD (p:Pg) (g b:Int):List St:=((zsR p g).getD b.toNat ⟨0,[]⟩).stmts
def zSt:St:=⟨0,0,0,0,0,0,[],[]⟩
def stAt (p:Pg) (r:Rn):St:=(zhD p r.g r.b).getD r.a.toNat zSt
noncomputable def znv (p:Pg) (inp:List Int) (N:Nat) (r:Rn):Rn:=zhK p inp N r (stAt p r)
def canR (r:Rn):Rn:={ r with fr:=r.fr.mapIdx fun i f=>{ f with id:=5+i } }
noncomputable def zvr (p:Pg) (inp:List Int) (r:Rn):Rn:=canR (znv p inp 301 r)
inductive RunTo (p:Pg) (inp:List Int) (n:Int):Rn→Rn→Prop
 | done {r:Rn}:r.ov=true→RunTo p inp n r r
 | out {r:Rn}:r.ov=false→n≤r.st→RunTo p inp n r (endR r 15)
 | step {r r2:Rn}:r.ov=false→r.st < n→RunTo p inp n (zvr p inp r) r2→RunTo p inp n r r2
mutual
theorem zpR {m:Mem} {s t:List Int}:∀e:Ex,(∀v∈occX e,zaK s v=zaK t v)→zhI m s e=zhI m t e
 |
  .mk op n v w l,h=>by
  have hl:zdp m s l=zdp m t l:=zog l fun v hv=>h v (by rw[occX];exact WR _ hv)
  rw[zhI,zhI,hl];unfold zsq
  by_cases h2:op=2
  · rw[h v (by rw[occX,if_pos h2];simp)]
  · rw[if_neg h2,if_neg h2]
theorem zog {m:Mem} {s t:List Int}:∀l:List Ex,(∀v∈zb3 l,zaK s v=zaK t v)→zdp m s l=zdp m t l
 | [],_=>by rw[zdp,zdp]
 |
  e::l,h=>by
  rw[zdp,zdp,zpR e fun v hv=>h v (by rw[zb3];exact WI _ hv),zog l fun v hv=>h v (by rw[zb3];exact WR _ hv)]
end
theorem zxr {m:Mem} {s t:List Int} (e:Ex) (h:∀v∈occX e,zaK s v=zaK t v):zk6 m s e=zk6 m t e:=by unfold zk6;rw[zpR e h]
theorem ziO {m:Mem} {s t:List Int}:∀(l:List Ex) (acc:List Int),(∀v∈zb3 l,zaK s v=zaK t v)→zae m s l acc=zae m t l acc
 | [],acc,_=>rfl
 |
  e::l,acc,h=>by
  unfold zae;rw[zxr e fun v hv=>h v (by rw[zb3];exact WI _ hv)];split
  · rfl
  · exact ziO l _ fun v hv=>h v (by rw[zb3];exact WR _ hv)
mutual
theorem zow {m:Mem} {s:List Int}:∀e:Ex,zjP e=false→zdE e=true→(zhI m s e).2=0
 |
  .mk op n v w l,hl,hf=>by
  rw[zjP,W5,decide_eq_false_iff_not] at hl;rw[zdE,Wr] at hf;have hs:=zmX (m:=m) (s:=s) l hl.2 hf.1
  have h0:∀i,((zdp m s l).getD i (0,0)).2=0:=fun i=>by
   rw[Wa]
   cases hi:(zdp m s l)[i]? with
   | none=>rfl
   | some x=>exact hs x (List.mem_of_getElem? hi)
  rw[zhI];unfold zsq;rw[h0,h0,if_neg (show ¬(0:Int)≠0 from fun h=>h rfl),if_neg (show ¬(0:Int)≠0 from fun h=>h rfl),if_neg hl.1]
  repeat' split
  all_goals rfl
theorem zmX {m:Mem} {s:List Int}:∀l:List Ex,zl0 l=false→zch l=true→∀x∈zdp m s l,x.2=0
 | [],_,_,x,hx=>by rw[zdp] at hx;cases hx
 |
  e::l,hl,hf,x,hx=>by
  rw[zl0,W5] at hl;rw[zch,Wr] at hf;rw[zdp] at hx
  rcases Wt.1 hx with rfl|hx
  · exact zow e hl.1 hf.1
  · exact zmX l hl.2 hf.2 x hx
end
theorem zzK {e:Ex} (h:zdn [e]=0):zcs e=0:=by
 unfold zdn at h;split at h
 · assumption
 · exact Classical.byContradiction fun hc=>by simp_all
theorem zza {m:Mem} {vs:List Int} {s:St} {a:List Int} (hr:remS s a=true) (hc:s.check=0):(zae m vs s.e []).2=0∧s.op=1∧s.var∉a:=by
 have hv:=zqR hr;refine⟨?_,hv⟩;unfold remS at hr;simp only[Wr,decide_eq_true_eq,Bool.not_eq_true',decide_eq_false_iff_not] at hr;unfold St.check zjQ at hc;rw[hv.1] at hc;split at hc
 · cases hc
 ·
  rename_i h1;have he:zR 1=1:=rfl;rw[he] at h1
  have hlen:s.e.length=1:=by omega
  obtain⟨x,hx⟩:=List.length_eq_one_iff.1 hlen;split at hc
  · rename_i h2;exact absurd hc h2
  ·
   rename_i h2
   have h3:zdn s.e=0:=Classical.byContradiction fun hc=>h2 hc
   rw[hx] at h3 hr ⊢;have hcx:=zzK h3
   have hlx:zjP x=false:=by
    have:=hr.2.2
    simpa using this
   have:zk6 m vs x=zhI m vs x:=by unfold zk6;rw[if_neg (show ¬zcs x≠0 from fun h=>h hcx)]
   unfold zae;rw[this,if_neg (show ¬(zhI m vs x).2≠0 from fun h=>h (zow x hlx (zp9 hcx)))];rfl
theorem zlT {s:List Int} {v n w:Int} (hv:0≤v):zaK (setR s v n) w=if w=v then IntKind.u32.wrap n else zaK s w:=by
 have hlen:(setR s v n).length=s.length+(v.toNat+1 - s.length):=by unfold setR;simp
 unfold zaK;rw[hlen]
 by_cases hw:w=v
 ·
  subst hw;rw[if_pos rfl,if_neg (by omega)]
  congr 1
  unfold setR;rw[Wa,List.getElem?_set_self (by simp;omega)];rfl
 ·
  rw[if_neg hw]
  by_cases h0:w < 0
  · rw[if_pos (.inl h0),if_pos (.inl h0)]
  by_cases h1:(s.length:Int)≤w
  ·
   rw[if_pos (Wc h1)]
   by_cases h2:((s.length+(v.toNat+1 - s.length):Nat):Int)≤w
   · rw[if_pos (.inr h2)]
   ·
    rw[if_neg (by omega)]
    have:(setR s v n).getD w.toNat 0=0:=by
     unfold setR;rw[Wa,W6 (by omega),W7 (by omega),List.getElem?_replicate]
     split<;>rfl
    rw[this];rfl
  ·
   rw[if_neg (by omega),if_neg (by omega)]
   congr 1
   unfold setR;rw[Wa,Wa,W6 (by omega),W8 (by omega)]
theorem zh2 {a b:List Int} {w:Int} (ha:12≤a.length):zaK (a.take 12++b.drop 12) w=if w < 12 then zaK a w else zaK b w:=by
 have hl:(a.take 12++b.drop 12).length=12+(b.length - 12):=by simp;omega
 unfold zaK;rw[hl]
 by_cases h0:w < 0
 · rw[if_pos (.inl h0),if_pos (by omega),if_pos (.inl h0)]
 by_cases h:w < 12
 ·
  rw[if_pos h,if_neg (by omega),if_neg (by omega)]
  congr 1
  rw[Wa,Wa,W8 (by simp;omega),List.getElem?_take,if_pos (by omega)]
 ·
  rw[if_neg h]
  by_cases h2:(b.length:Int)≤w
  · rw[if_pos (by omega),if_pos (.inr h2)]
  ·
   rw[if_neg (by omega),if_neg (by omega)]
   congr 1
   rw[Wa,Wa,W7 (by simp;omega)]
   have:(List.take 12 a).length=12:=by simp;omega
   rw[this,List.getElem?_drop]
   congr 2
   omega
theorem ziB {a:List Int} {w:Int} (ha:12≤a.length):zaK (a.take 12) w=if w < 12 then zaK a w else 0:=by
 have:=zh2 (a:=a) (b:=[]) (w:=w) ha;simp only[List.drop_nil,List.append_nil] at this;rw[this];split
 · rfl
 · unfold zaK;rw[if_pos (by simp;omega)]
def AgL (L:Int→Prop) (a b:List Int):Prop:=∀v,L v→zaK a v=zaK b v
theorem AgL.mono {L L2:Int→Prop} {a b:List Int} (h:AgL L a b) (k:∀v,L2 v→L v):AgL L2 a b:=fun v hv=>h v (k v hv)
def zjM (w:Int):St:=⟨4,0,0,0,0,0,[.mk 2 0 w 0 []],[]⟩
def zjL:St:=⟨10,0,0,0,0,0,[],[]⟩
def zrq (v n:Int):St:=⟨1,v,0,0,0,0,[.mk 1 n 0 0 []],[]⟩
def zln (a:Int):St:=⟨5,0,0,0,0,a,[],[]⟩
def lowG (exit:List Int):List Int:=exit.filter fun w=>decide (0≤w∧w < 12)
def zjy (v n ga:Int) (exit:List Int):List St:=zrq v n::zln ga::((lowG exit).map zjM++[zjL])
def zlH (v n ga:Int) (exit:List Int):G:=⟨IntKind.u32.wrap (ga+1),[⟨IntKind.u32.wrap (ga+1),zjy v n ga exit⟩]⟩
theorem zyf {exit:List Int} {w:Int}:w∈lowG exit↔w∈exit∧0≤w∧w < 12:=by unfold lowG;rw[List.mem_filter,decide_eq_true_iff]
structure SimP (exit:List Int) (x y:List Bl) (v n n2 ga:Int):Prop where
 rel:RelD exit x y
 ok:OkG ⟨ga,y⟩
 v0:0≤v
 set:n=n2∨v∉(za2 exit x).getD 0 []
 calls:(∀w:Int,0≤w→w < 12→w∈exit)∨∀b∈y,∀s∈b.stmts,s.op≠5
section
variable (exit:List Int) (x y:List Bl)
def zlp (b a:Nat):List Int:=zbJ exit (((x.getD b ⟨0,[]⟩).stmts).drop a) (zaa exit x b)
structure AtG (b a a2:Nat):Prop where
 hb:b < y.length
 sub:SubD exit (zaa exit x b) (((x.getD b ⟨0,[]⟩).stmts).drop a2) (((y.getD b ⟨0,[]⟩).stmts).drop a)
 ne:((y.getD b ⟨0,[]⟩).stmts).drop a≠[]
structure FRel (f g:Fr):Prop where
 lf:12≤f.vs.length
 lg:12≤g.vs.length
 pos:(f.g=0∧f.b=0∧f.a=2∧g.g=0∧g.b=0∧g.a=2)∨((∀w:Int,0≤w→w < 12→w∈exit)∧∃b a a2:Nat,f.g=1∧f.b=b∧f.a=a∧g.g=1∧g.b=b∧g.a=a2∧AtG exit x y b a a2∧AgL (·∈zlp exit x b a2) f.vs g.vs)
def zry (a:Nat) (v:Int):Prop:=if a=0 then True else if a=1 then v∈(za2 exit x).getD 0 [] else v∈exit∧0≤v∧v < 12
structure Base (r t:Rn):Prop where
 m:r.m=t.m
 tk:r.tk=t.tk
 out:r.out=t.out
 err:r.err=t.err
 ov:r.ov=t.ov
 st:t.st≤r.st
 lr:12≤r.vs.length
 lt:12≤t.vs.length
 fl:r.fr.length=t.fr.length
 fr:∀(i:Nat) (f g:Fr),r.fr[i]? = some f→t.fr[i]? = some g→FRel exit x y f g
def PRel (k:Nat) (r t:Rn):Prop:=(∃a:Nat,a < k∧(r.g=0∧r.b=0∧r.a=a∧t.g=0∧t.b=0∧t.a=a)∧AgL (zry exit x a) r.vs t.vs) ∨
 (∃b a a2:Nat,(r.g=1∧r.b=b∧r.a=a∧t.g=1∧t.b=b∧t.a=a2)∧AtG exit x y b a a2∧AgL (·∈zlp exit x b a2) r.vs t.vs)
structure Rel (k:Nat) (r t:Rn):Prop where
 base:Base exit x y r t
 pos:r.ov=false→PRel exit x y k r t
end
section
variable {exit:List Int} {x y:List Bl} {v n n2 ga:Int} {k:Nat}
theorem Base.can {r t:Rn} (h:Base exit x y r t):Base exit x y (canR r) (canR t):=by
 refine⟨h.m,h.tk,h.out,h.err,h.ov,h.st,h.lr,h.lt,?_,fun i f g hf hg=>?_⟩
 · show (r.fr.mapIdx _).length=(t.fr.mapIdx _).length;rw[W9,W9,h.fl]
 · have hf':(r.fr.mapIdx fun i f=>{ f with id:=5+i })[i]? = some f:=hf;have hg':(t.fr.mapIdx fun i f=>{ f with id:=5+i })[i]? = some g:=hg;rw[List.getElem?_mapIdx] at hf' hg';obtain⟨f1,e1,rfl⟩:=Ws.1 hf';obtain⟨g1,e2,rfl⟩:=Ws.1 hg';have:=h.fr i f1 g1 e1 e2;exact⟨this.lf,this.lg,this.pos⟩
theorem Rel.can {r t:Rn} (h:Rel exit x y k r t):Rel exit x y k (canR r) (canR t):=⟨h.base.can,h.pos⟩
theorem Base.tick {r t:Rn} (h:Base exit x y r t):Base exit x y (z7 r) (z7 t):=⟨h.m,h.tk,h.out,h.err,h.ov,by show t.st+1≤r.st+1;have:=h.st;omega,h.lr,h.lt,h.fl,h.fr⟩
theorem Base.ended {r t:Rn} (h:Base exit x y r t) (e:Int):Rel exit x y k (endR r e) (endR t e) :=
 ⟨⟨h.m,h.tk,h.out,rfl,rfl,h.st,h.lr,h.lt,h.fl,h.fr⟩,fun h=>by cases h⟩
theorem zmH {s:List Int} {v n:Int}:s.length≤(setR s v n).length:=by unfold setR;simp
theorem Base.set {r t:Rn} (h:Base exit x y r t) (w a b:Int):Base exit x y { r with vs:=setR r.vs w a } { t with vs:=setR t.vs w b } :=
 ⟨h.m,h.tk,h.out,h.err,h.ov,h.st,Ww h.lr zmH,Ww h.lt zmH,h.fl,h.fr⟩
theorem zjG {α:Type} {l:List α} {a:Nat} {s:α} {r:List α} (h:l.drop a=s::r):l.drop (a+1)=r∧∀z,l.getD a z=s:=by
 have h1:a < l.length:=by
  rcases Nat.lt_or_ge a l.length with h1|h1
  · exact h1
  · rw[List.drop_eq_nil_of_le h1] at h;cases h
 rw[Wh h1] at h;cases h;exact⟨rfl,fun z=>by rw[Wa,Wd h1];rfl⟩
theorem AgL.setR {L:Int→Prop} {a b:List Int} {w c d:Int} (hw:0≤w) (h:AgL (fun v=>L v∧v≠w) a b) (hc:L w→c=d):AgL L (setR a w c) (setR b w d):=fun v hv=>by
 rw[zlT hw,zlT hw]
 by_cases e:v=w
 · subst e;rw[if_pos rfl,if_pos rfl,hc hv]
 · rw[if_neg e,if_neg e];exact h v ⟨hv,e⟩
theorem AgL.setL {L:Int→Prop} {a b:List Int} {w c:Int} (hw:0≤w) (h:AgL L a b) (hc:¬L w):AgL L (Go.Ab.setR a w c) b:=fun v hv=>by rw[zlT hw,if_neg (fun e=>hc (by rw[←e];exact hv))];exact h v hv
theorem zgs {s:St} {l:List St} {a:Nat} (h:l.drop a=[s]):zG l=zam s:=by
 have h2:l=l.take a++[s]:=by rw[←h,List.take_append_drop]
 unfold zG;rw[h2,List.getLast?_concat]
theorem ziJ {l:List St}:∀ {a:Nat} {s:St} {r:List St},endsOk l=true→l.drop a=s::r→zcm s=r.isEmpty:=by
 induction l with
 | nil=>intro a s r _ h;simp at h
 |
  cons z l ih =>
  intro a s r he h;unfold endsOk at he;rw[Wr,beq_iff_eq] at he
  cases a with
  | zero=>cases h;exact he.1
  | succ a=>exact ih he.2 h
theorem zau {s:St} (h:s.check=0):(1≤s.op∧s.op≤10)∧(0≤s.var∧s.var < 65536)∧(s.op=8→1≤s.cases.length∧s.cases.length≤64)∧zR s.op=s.e.length:=by
 unfold St.check zjQ at h;split at h
 · cases h
 ·
  rename_i h1;split at h
  · rename_i h2;exact absurd h h2
  ·
   split at h
   · rename_i h3;unfold zA at h3;have h3:=of_decide_eq_true h3;refine⟨by omega,by omega,fun h8=>by have:=h3.2.2.2 h8;omega,by omega⟩
   · cases h
theorem znt {m:Mem} {vs:List Int}:∀(l:List Ex) (acc:List Int),(zae m vs l acc).2=0→(zae m vs l acc).1.length=acc.length+l.length
 | [],acc,_=>rfl
 |
  e::l,acc,h=>by
  unfold zae at h ⊢;split
  · rename_i h1;rw[if_pos h1] at h;exact absurd h h1
  · rename_i h1;rw[if_neg h1] at h;rw[znt l _ h];simp;omega
theorem zDd (m:Mem) (vs:List Int) (e:Ex):R32 (zk6 m vs e).1:=by
 unfold zk6;split
 · exact⟨Int.le_refl 0,by show (0:Int)≤4294967295;decide⟩
 · exact zpO _ _ _
theorem zkK {m:Mem} {vs:List Int}:∀(l:List Ex) (acc:List Int),(∀z∈acc,R32 z)→∀z∈(zae m vs l acc).1,R32 z
 | [],acc,h=>h
 |
  e::l,acc,h=>by
  unfold zae;split
  · intro z hz;cases hz
  ·
   refine zkK l _ fun z hz=>?_
   rcases WQ.1 hz with hz|hz
   · exact h z hz
   · rw[WP.1 hz];exact zDd _ _ _
theorem zsi {a:Int}:∀ {l m:List G} {i:Int},l.map (·.addr)=m.map (·.addr)→zba a l i=zba a m i
 | [],[],_,_=>rfl
 | [],_::_,_,h=>by cases h
 | _::_,[],_,h=>by cases h
 |
  g::l,g2::m,i,h=>by
  rw[Wi,Wi] at h
  injection h with h1 h2
  unfold zba;rw[h1,zsi h2]
theorem Base.push {r t:Rn} (h:Base exit x y r t) {f g:Fr} (hf:FRel exit x y f g) {vs ws:List Int} (hv:12≤vs.length) (hw:12≤ws.length) (a:Int):Base exit x y { r with fr:=r.fr++[f],vs:=vs,g:=a } { t with fr:=t.fr++[g],vs:=ws,g:=a }:=by
 refine⟨h.m,h.tk,h.out,h.err,h.ov,h.st,hv,hw,by simp[h.fl],fun i f2 g2 h1 h2=>?_⟩;simp only at h1 h2;rw[List.getElem?_append] at h1 h2;have hl:=h.fl;split at h1
 · rename_i hi;rw[if_pos (by omega)] at h2;exact h.fr i _ _ h1 h2
 ·
  rename_i hi;rw[if_neg (by omega)] at h2;rw[List.getElem?_singleton] at h1 h2;split at h1
  ·
   split at h2
   · cases h1;cases h2;exact hf
   · cases h2
  · cases h1
theorem Base.enter {r t:Rn} (h:Base exit x y r t) (b:Int):Base exit x y (zhh r b) (zhh t b):=⟨h.m,h.tk,h.out,h.err,h.ov,h.st,h.lr,h.lt,h.fl,h.fr⟩
theorem Base.back {r t:Rn} (h:Base exit x y r t) (hk:2 < k) (hov:r.ov=false) (hv:AgL (·∈exit) r.vs t.vs):Rel exit x y k (zrk r) (zrk t):=by
 have hl:=h.fl;have hlast:=h.fr (r.fr.length - 1);unfold zrk;rw[Waa,Waa,←hl]
 cases hr:r.fr[r.fr.length - 1]? with
 |
  none =>
  have h0:r.fr.length=0:=by
   rcases Nat.eq_zero_or_pos r.fr.length with h0|h0
   · exact h0
   · rw[Wd (by omega)] at hr;cases hr
  have:t.fr[r.fr.length - 1]? = none:=List.getElem?_eq_none (by omega);rw[this];exact h.ended 0
 |
  some f =>
  obtain⟨hi,_⟩:=List.getElem?_eq_some_iff.1 hr;obtain⟨g,hg⟩:∃g,t.fr[r.fr.length - 1]? = some g:=⟨_,Wd (by omega)⟩;rw[hg];have hf:=hlast f g hr hg;have hlf:=hf.lf;have hlg:=hf.lg;have hlr:=h.lr;have hlt:=h.lt;refine⟨⟨h.m,h.tk,h.out,h.err,h.ov,h.st,by simp only[Wl,WB,Wab];omega,by simp only[Wl,WB,Wab];omega,by simp[hl],fun i f2 g2 h1 h2=>?_⟩,fun _=>?_⟩
  ·
   simp only[List.getElem?_dropLast] at h1 h2;split at h1
   ·
    split at h2
    · exact h.fr i _ _ h1 h2
    · cases h2
   · cases h1
  ·
   rcases hf.pos with ⟨p1,p2,p3,p4,p5,p6⟩ | ⟨hall,b,a,a2,p1,p2,p3,p4,p5,p6,hat,hag⟩
   · refine .inl ⟨2,hk,⟨p1,p2,p3,p4,p5,p6⟩,fun w hw=>?_⟩;unfold zry at hw;rw[if_neg (by decide),if_neg (by decide)] at hw;simp only;rw[zh2 hlr,zh2 hlt,if_pos hw.2.2,if_pos hw.2.2];exact hv w hw.1
   ·
    refine .inr ⟨b,a,a2,⟨p1,p2,p3,p4,p5,p6⟩,hat,fun w hw=>?_⟩;simp only;rw[zh2 hlr,zh2 hlt];split
    ·
     rcases Int.lt_or_le w 0 with h0|h0
     · unfold zaK;rw[if_pos (.inl h0),if_pos (.inl h0)]
     · exact hv w (hall w h0 (by assumption))
    · exact hag w hw
theorem zph (h:SimP exit x y v n n2 ga) {b:Nat} (hb:b < x.length):∀w,w∈zlp exit x b 0↔w∈(za2 exit x).getD b []:=by intro w;have hy:=h.ok.ends;have hx:=h.rel.ends hy;rw[zkL hb,zf2 (hx _ (Wg hb)).1];unfold zlp;rw[Wa,Wd hb];exact Iff.rfl
theorem zyn (h:SimP exit x y v n n2 ga) {b:Nat} (hb:b < y.length):AtG exit x y b 0 0:=by
 have hl:=h.rel.len;have h1:=(h.rel.blk b (by omega) hb).2;refine⟨hb,?_,?_⟩
 · rw[Wa,Wa,Wd hb,Wd (by omega:b < x.length)];exact h1
 · rw[Wa,Wd hb];exact(h.ok.ends _ (Wg hb)).1
theorem Base.jump (h:SimP exit x y v n n2 ga) {r t:Rn} (hb:Base exit x y r t) (hg:r.g=1) (hg2:t.g=1) {b:Nat} (hbl:b < y.length) (hv:AgL (·∈(za2 exit x).getD b []) r.vs t.vs):Rel exit x y k (zhh r b) (zhh t b) :=
 ⟨hb.enter _,fun _=>.inr ⟨b,0,0,⟨hg,rfl,rfl,hg2,rfl,rfl⟩,zyn h hbl,hv.mono fun w hw=>(zph h (by have:=h.rel.len;omega) w).1 hw⟩⟩
structure Progs (y x:List Bl) (v n n2 ga:Int) (exit:List Int) (p q:Pg):Prop where
 p:p.gs=[zlH v n ga exit,⟨ga,y⟩]
 q:q.gs=[zlH v n2 ga exit,⟨ga,x⟩]
theorem Progs.find {p q:Pg} (h:Progs y x v n n2 ga exit p q) (a:Int):zba a p.gs 0=zba a q.gs 0:=by rw[h.p,h.q];exact zsi rfl
theorem Progs.find3 {p q:Pg} (h:Progs y x v n n2 ga exit p q) (a:Int):zba a p.gs 0 = -1∨zba a p.gs 0=0∨zba a p.gs 0=1:=by
 rw[h.p];unfold zba zba zba
 repeat' split
 all_goals omega
theorem Progs.findga {p q:Pg} (h:Progs y x v n n2 ga exit p q):zba ga p.gs 0=1:=by
 rw[h.p];unfold zba zba;rw[if_neg,if_pos rfl]
 · rfl
 · show ¬IntKind.u32.wrap (ga+1)=ga;have e:IntKind.u32.wrap (ga+1)=(ga+1) % 4294967296:=rfl;rw[e];omega
theorem Base.call (h:SimP exit x y v n n2 ga) {p q:Pg} (hp:Progs y x v n n2 ga exit p q) {r t:Rn} (hb:Base exit x y r t) {N:Nat} (hk:0 < k) (tg:Int) (hf:FRel exit x y ⟨N,r.g,r.b,r.a,r.vs⟩ ⟨N,t.g,t.b,t.a,t.vs⟩)
  (h0:zba tg p.gs 0=0→∀w:Int,w < 12→zaK r.vs w=zaK t.vs w) (h1:∀w:Int,w < 12→w∈(za2 exit x).getD 0 []→zaK r.vs w=zaK t.vs w):Rel exit x y k (zrA p N r tg) (zrA q N t tg):=by
 unfold zrA;rw[←hp.find,←hb.fl];split
 · exact hb.ended _
 split
 · exact hb.ended _
 have l1:=hb.lr;have l2:=hb.lt;have hpush:=(hb.push hf (vs:=r.vs.take 12) (ws:=t.vs.take 12) (by rw[WB];omega) (by rw[WB];omega) (zba tg p.gs 0)).enter 0;refine⟨hpush,fun _=>?_⟩
 rcases hp.find3 tg with h3|h3|h3
 · omega
 ·
  refine .inl ⟨0,hk,⟨h3,rfl,rfl,h3,rfl,rfl⟩,fun w _=>?_⟩;show zaK (r.vs.take 12) w=zaK (t.vs.take 12) w;rw[ziB l1,ziB l2];split
  · exact h0 h3 w (by assumption)
  · rfl
 ·
  have hy:0 < y.length:=List.length_pos_iff.2 h.ok.ne;refine .inr ⟨0,0,0,⟨h3,rfl,rfl,h3,rfl,rfl⟩,zyn h hy,fun w hw=>?_⟩;show zaK (r.vs.take 12) w=zaK (t.vs.take 12) w;rw[ziB l1,ziB l2];split
  · exact h1 w (by assumption) ((zph h (by have:=h.rel.len;omega) w).1 hw)
  · rfl
end
end Go.Ab
