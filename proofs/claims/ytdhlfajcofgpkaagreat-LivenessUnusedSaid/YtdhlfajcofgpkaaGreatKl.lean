/-
  Part 12 of the proof: how the calls of this program run, over values instead of memory, and what each function computes.
-/
import Derived.Test.YtdhlfajcofgpkaaGreatKk
set_option maxRecDepth 100000
set_option linter.unusedVariables false
set_option linter.unusedSimpArgs false
set_option linter.unnecessarySimpa false
set_option linter.unusedSectionVars false
open List renaming getD_eq_getElem?_getD→Wa,getElem?_eq_getElem→Wd,getElem_mem→Wg,drop_eq_getElem_cons→Wh,drop_of_length_le→Wi,map_cons→Wk,length_append→Wl,all_cons→Wq,mem_cons→Wt,length_cons→Wu,length_take→Wz,take_of_length_le→WA,all_nil→WB,sum_cons→WD,getD_cons_zero→WE,getD_cons_succ→WF,all_eq_true→WG,mem_append_left→WH,length_map→WJ,length_singleton→WL,map_append→WM,map_nil→WN,mem_map→WO,mem_singleton→WP,mem_append→WQ,mem_append_right→WR,flatMap_cons→WS,ext_getElem→WV,length_range→WW,getElem_map→WX,getElem_range→WY,drop_length→WZ,getElem?_set_ne→W5,getElem?_append_right→W6,getElem?_append_left→W7,length_mapIdx→W8,getLast?_eq_getElem?→W9,length_drop→Waa
open Nat renaming zero_le→Wb,blt_eq→Wf,le_refl→Wj,blt→Wn,le_trans→WK,zero_lt_succ→WT,succ_lt_succ→WU,lt_of_lt_of_le→W0,le_add_right→W3
open Or renaming inr→Wc,inl→Wm
open And renaming intro→We
open Bool renaming false_and→Wo,true_and→Wp,and_eq_true→Wr,and_self→WC,or_eq_false_iff→W4
open Option renaming map_eq_some_iff→Ws,getD_some→Wy
open Int renaming tmod_nonneg→Wv,tmod_lt_of_pos→Ww,toNat_natCast→Wx
open Option.some renaming injEq→WI
namespace Go.Ab
open Go.RowKit Go.Proofs
structure FewD (exit:List Int) (bl:List Bl):Prop where
 sz:∀b∈bl,∀s∈b.stmts,zF s.e≤100000∧s.cases.length≤100000∧(s.op=1→s.e.length=1)
 len:bl.length≤1000000
 cnt:zJ bl≤1000
 uni:(univ exit bl).length+exit.length≤400000
structure RunR (exit:List Int) (bl0 R x:List Bl) (k:Nat):Prop where
 few:FewD exit x
 len:x.length=bl0.length
 cnt:k+zJ x≤zJ bl0
 go:∀j,zJ x < j→deadR exit j x=R
theorem Qaj {p q:Prop}(k:q)(h:Im q p:=by(repeat first|simp(disch:=try exact dis1) only[evD,Nat.reduceBEq,Nat.reduceAdd,Nat.reduceLeDiff,dT,dF,zdM] | ((with_reducible apply Im.i);intro _) | ((with_reducible apply Im.a);omega));exact Im.r):p:=h k
theorem Qt {p q:Prop}(k:q)(h:Im q p:=by(repeat first|simp(disch:=try exact dis1) only[evD,Nat.reduceBEq,Nat.reduceAdd,Nat.reduceLeDiff,fldP,dT,dF] | ((with_reducible apply Im.i);intro _) | ((with_reducible apply Im.a);omega));exact Im.r):p:=h k
theorem Qak {p q:Prop}(k:q)(h:Im q p:=by(repeat first|simp(disch:=try exact dis1) only[evD,Nat.reduceBEq,Nat.reduceAdd,Nat.reduceLeDiff,zdM] | ((with_reducible apply Im.i);intro _) | ((with_reducible apply Im.a);omega));exact Im.r):p:=h k
theorem ztB:∀(k:Nat) (e:Ex) (m n:Int),zbp e≤k → -1000≤m→m≤1000 → -1≤n→n≤30000→zu Tryz.prog zic [.agg (encX e),.int .i64 m,.int .i64 n] (·=.int .i64 (zhi e m n)):=by
 intro k
 induction k with
 | zero=>intro e m n h;obtain⟨_,_,_,_,l⟩:=e;rw[zbp] at h;omega
 | succ k ih =>
 intro e m n hk h1 h2 h3 h4;obtain⟨op,nn,v,w,l⟩:=e;refine fn_x zvA rfl ?_;unfold znZ;have hB:=hBig;rw[zbp] at hk;have hR:=zg8 (.mk op nn v w l) m n h3;rw[zhi] at hR ⊢;generalize hE:encX (.mk op nn v w l)=E;rw[zbl] at hE;subst hE
 by_cases c1:m < 1
 ·
  rw[if_pos (.inl c1)]
  (repeat first|simp(disch:=try exact dis1) only[evD,Nat.reduceBEq,Nat.reduceAdd,Nat.reduceLeDiff,dT,zdM]|with_reducible first|intro _|refine aJ ?_)
  exact⟨_,.int _ _ _,rfl⟩
 by_cases c2:n < 1
 ·
  rw[if_pos (.inr (.inl c2))]
  (refine Qaj ?_;intros)
  exact⟨_,.int _ _ _,rfl⟩
 by_cases c3:4 < l.length
 ·
  rw[if_pos (.inr (.inr c3))]
  (refine Qaj ?_;intros)
  exact⟨_,.int _ _ _,rfl⟩
 rw[if_neg (by omega)] at hR ⊢
 (refine Qg ?_;intros)
 generalize hG:zbw l (m - 1) (n - 1)=R at hR ⊢;refine zk (fun s:Nat × Int=>([(1,.int .i64 m),(3,encP 5 [.int .i64 op,.int .u32 nn,.int .i64 v,.int .i64 w,encL 5 encX l]),(7,.int .i64 s.2),(8,.int .i64 s.1)],[])) 0 (fun s=>s.1≤l.length ∧ -1≤s.2∧s.2≤n∧zbw (l.drop s.1) (m - 1) s.2=R) (fun s=>l.length - s.1) (0,n - 1) ⟨Wb _,by simp only;omega,by simp only;omega,hG⟩ (Ent.keep rfl fin5) ?_;rintro⟨i,x⟩ ⟨hi,hx1,hx2,hgo⟩ wf;simp only at hi hx1 hx2 hgo;unfold zjA
 by_cases hl:i < l.length
 ·
  by_cases hx:0≤x
  ·
   rw[znR hl hx] at hgo;have hm:=zcx (Wg hl);have hr:=zg8 l[i] (m - 1) x hx1
   (repeat first|simp(disch:=try exact dis1) only[evD,Nat.reduceBEq,Nat.reduceAdd,Nat.reduceLeDiff,fldP,dT,dF,zq hl,zaJ,zal]|with_reducible first|intro _|refine aJ ?_)
   refine ze (zd (ih l[i] (m - 1) x (by omega) (by omega) (by omega) (by omega) (by omega)) (flX rfl)) ?_
   (refine Qa ?_;intros)
   exact⟨(i+1,zhi l[i] (m - 1) x),⟨by simp only;omega,by simp only;omega,by simp only;omega,hgo⟩,by simp only;omega,Ent.keep rfl fin5⟩
  ·
   rw[zlJ (by omega)] at hgo;subst hgo
   (refine Qt ?_;intros)
   unfold zgC
   (refine Qak ?_;intros)
   exact⟨_,.int _ _ _,rfl⟩
 ·
  rw[Wi (by omega),zbw] at hgo;subst hgo
  (refine Qt ?_;intros)
  unfold zgC
  (refine Qak ?_;intros)
  exact⟨_,.int _ _ _,rfl⟩
def zxd (s:St) (n:Int):Int:=if 4 < s.e.length∨100 < s.cases.length then -1 else zbw s.e 8 n
def zgs:List St→Int→Int
 | [],n=>n
 | s::l,n=>if n < 0 then n else zgs l (zxd s n)
def zwD (b:Bl) (n:Int):Int:=if 1100 < b.stmts.length then -1 else zgs b.stmts n
def zgu:List Bl→Int→Int
 | [],n=>n
 | b::l,n=>if n < 0 then n else zgu l (zwD b n)
def zuD (g:G):Bool:=decide (g.blocks.length≤300)&&decide (0≤zgu g.blocks 20000)
def ztL (g:G) (exit:List Int):Bool:=decide (g.blocks.length≤12)&&(decide (exit.length≤20)&&(zuD g&&g.blocks.all fun b=>decide (b.stmts.length≤12)))
theorem zvR {l:List St} {i:Nat} {n:Int} (h:i < l.length) (hn:0≤n):zgs (l.drop i) n=zgs (l.drop (i+1)) (zxd l[i] n):=by rw[Wh h,zgs,if_neg (by omega)]
theorem zku {l:List St} {n:Int} (hn:n < 0):zgs l n=n:=by
 cases l with
 | nil=>rw[zgs]
 | cons a l=>rw[zgs,if_pos hn]
theorem zv6 {l:List Bl} {i:Nat} {n:Int} (h:i < l.length) (hn:0≤n):zgu (l.drop i) n=zgu (l.drop (i+1)) (zwD l[i] n):=by rw[Wh h,zgu,if_neg (by omega)]
theorem zna {l:List Bl} {n:Int} (hn:n < 0):zgu l n=n:=by
 cases l with
 | nil=>rw[zgu]
 | cons a l=>rw[zgu,if_pos hn]
theorem znl (g:G):zu Tryz.prog ze9 [.agg g.cells,.int .i64 8] (·=.bool (zuD g)):=by
 refine fn_x zng rfl ?_;unfold zhR zuD;have hB:=hBig;obtain⟨ad,bl⟩:=g;simp only[G.cells]
 by_cases h300:300 < bl.length
 ·
  rw[decide_eq_false (by omega),Wo]
  (repeat first|simp(disch:=try exact dis1) only[evD,Nat.reduceBEq,Nat.reduceAdd,Nat.reduceLeDiff,fldP,dT,zaU]|with_reducible first|intro _|refine aJ ?_)
  exact⟨_,.bool _ _,rfl⟩
 rw[decide_eq_true (by omega),Wp];generalize hR:zgu bl 20000=R
 have fin:R < 0→decide (0≤R)=false:=fun h=>decide_eq_false (by omega)
 (refine Qh ?_;intros)
 refine zk (fun a:Nat × Int=>([(1,.int .i64 8),(2,encP 2 [.int .u32 ad,encL 2 Bl.cells bl]),(5,.int .i64 a.2),(6,.int .i64 a.1)],[])) 0 (fun a=>a.1≤bl.length∧0≤a.2∧a.2≤20000∧zgu (bl.drop a.1) a.2=R) (fun a=>bl.length - a.1) (0,20000) ⟨Wb _,by simp only;omega,by simp only;omega,hR⟩ (Ent.keep rfl fin5) ?_;rintro⟨i,n⟩ ⟨hi,hn1,hn2,hgo⟩ wf;simp only at hi hn1 hn2 hgo;unfold zfm
 by_cases hil:i < bl.length
 case neg =>
  rw[Wi (by omega),zgu] at hgo;subst hgo;rw[decide_eq_true hn1]
  (refine Qh ?_;intros)
  unfold zfr
  (repeat first|simp(disch:=try exact dis1) only[evD,Nat.reduceBEq,Nat.reduceAdd,Nat.reduceLeDiff,zaU]|with_reducible first|intro _|refine aJ ?_)
  exact⟨_,.bool _ _,rfl⟩
 have hg:(bl.map Bl.cells).getD i []=[.int .u32 bl[i].addr,encL 8 St.cells bl[i].stmts]:=zq hil;rw[zv6 hil hn1] at hgo;unfold zwD at hgo;generalize bl[i].addr=ad2 at hg;generalize bl[i].stmts=m at hg hgo
 by_cases h11:1100 < m.length
 ·
  rw[if_pos h11,zna (by omega)] at hgo;rw[fin (by omega)]
  (repeat first|simp(disch:=try exact dis1) only[evD,Nat.reduceBEq,Nat.reduceAdd,Nat.reduceLeDiff,fldP,dT,hg,zaU]|with_reducible first|intro _|refine aJ ?_)
  exact⟨_,.bool _ _,rfl⟩
 rw[if_neg h11] at hgo
 (repeat first|simp(disch:=try exact dis1) only[evD,Nat.reduceBEq,Nat.reduceAdd,Nat.reduceLeDiff,fldP,dT,dF,hg]|with_reducible first|intro _|refine aJ ?_)
 generalize hM:zgs m n=M at hgo
 have hMR:M < 0→R < 0:=fun h=>by rw[zna h] at hgo;omega
 refine zk (fun a:Nat × Int=>([(1,.int .i64 8),(2,encP 2 [.int .u32 ad,encL 2 Bl.cells bl]),(5,.int .i64 a.2),(6,.int .i64 i),(7,.int .i64 a.1)],[])) 0 (fun a=>a.1≤m.length∧0≤a.2∧a.2≤20000∧zgs (m.drop a.1) a.2=M) (fun a=>m.length - a.1) (0,n) ⟨Wb _,hn1,hn2,hM⟩ (Ent.keep rfl fin5) ?_;rintro⟨k,n2⟩ ⟨hk,hk1,hk2,hgo2⟩ wf2;simp only at hk hk1 hk2 hgo2;unfold zfq
 by_cases hkl:k < m.length
 case neg =>
  rw[Wi (by omega),zgs] at hgo2;subst hgo2
  (repeat first|simp(disch:=try exact dis1) only[evD,Nat.reduceBEq,Nat.reduceAdd,Nat.reduceLeDiff,fldP,dF,hg]|with_reducible first|intro _|refine aJ ?_)
  unfold zfx
  (refine Qa ?_;intros)
  exact⟨(i+1,n2),⟨by simp only;omega,hk1,hk2,hgo⟩,by simp only;omega,Ent.keep rfl fin5⟩
 have hgm:=zq (f:=St.cells) (d:=[]) hkl;rw[zvR hkl hk1] at hgo2;unfold zxd at hgo2;generalize m[k]=s at hgm hgo2;obtain⟨op,var,width,next,els,tgt,e,cs⟩:=s;simp only at hgo2;simp only[St.cells] at hgm
 by_cases h4:4 < e.length
 ·
  rw[if_pos (.inl h4),zku (by omega)] at hgo2;have:=hMR (by omega);rw[fin this]
  (repeat first|simp(disch:=try exact dis1) only[evD,Nat.reduceBEq,Nat.reduceAdd,Nat.reduceLeDiff,fldP,dT,hg,hgm,zaU]|with_reducible first|intro _|refine aJ ?_)
  exact⟨_,.bool _ _,rfl⟩
 by_cases h100:100 < cs.length
 ·
  rw[if_pos (.inr h100),zku (by omega)] at hgo2;have:=hMR (by omega);rw[fin this]
  (repeat first|simp(disch:=try exact dis1) only[evD,Nat.reduceBEq,Nat.reduceAdd,Nat.reduceLeDiff,fldP,dT,dF,hg,hgm,za,zaU]|with_reducible first|intro _|refine aJ ?_)
  exact⟨_,.bool _ _,rfl⟩
 rw[if_neg (by omega)] at hgo2;generalize hE:zbw e 8 n2=E at hgo2
 have hEM:E < 0→M < 0:=fun h=>by rw[zku h] at hgo2;omega
 (repeat first|simp(disch:=try exact dis1) only[evD,Nat.reduceBEq,Nat.reduceAdd,Nat.reduceLeDiff,fldP,dT,dF,hg,hgm,za]|with_reducible first|intro _|refine aJ ?_)
 refine zk (fun a:Nat × Int=>([(1,.int .i64 8),(2,encP 2 [.int .u32 ad,encL 2 Bl.cells bl]),(5,.int .i64 a.2),(6,.int .i64 i),(7,.int .i64 k),(8,.ptr 0 0 0 0 0),(9,.int .i64 a.1)],[(0,.row 8 [[.int .i64 op,.int .i64 var,.int .i64 width,.int .i64 next,.int .i64 els,.int .u32 tgt,encL 5 encX e,za cs]] 0)])) 1 (fun a=>a.1≤e.length∧0≤a.2∧a.2≤20000∧zbw (e.drop a.1) 8 a.2=E) (fun a=>e.length - a.1) (0,n2) ⟨Wb _,hk1,hk2,hE⟩ (Ent.tab [(0,0,0)] [] rfl Qaz Qaz) ?_;rintro⟨j,n3⟩ ⟨hj,hj1,hj2,hgo3⟩ wf3;simp only at hj hj1 hj2 hgo3;unfold zfo
 by_cases hjl:j < e.length
 case neg =>
  rw[Wi (by omega),zbw] at hgo3;subst hgo3
  (repeat first|simp(disch:=try exact dis1) only[evD,Nat.reduceBEq,Nat.reduceAdd,Nat.reduceLeDiff,fldP,dF,hg]|with_reducible first|intro _|refine aJ ?_)
  unfold zfy
  (refine Qa ?_;intros)
  exact⟨(k+1,n3),⟨by simp only;omega,hj1,hj2,hgo2⟩,by simp only;omega,(Ent.tab [] [] rfl Qaz Qaz)⟩
 rw[znR hjl hj1] at hgo3;have hr:=zg8 e[j] 8 n3 (by omega)
 (repeat first|simp(disch:=try exact dis1) only[evD,Nat.reduceBEq,Nat.reduceAdd,Nat.reduceLeDiff,fldP,dT,dF,zq hjl,zaJ,zal,za]|with_reducible first|intro _|refine aJ ?_)
 refine ze (zd (ztB (zbp e[j]) e[j] 8 n3 (Wj _) (by omega) (by omega) (by omega) (by omega)) (flX rfl)) ?_
 by_cases hx:zhi e[j] 8 n3 < 0
 ·
  rw[zlJ hx] at hgo3;have:=hMR (hEM (by omega));rw[fin this]
  (repeat first|simp(disch:=try exact dis1) only[evD,Nat.reduceBEq,Nat.reduceAdd,Nat.reduceLeDiff,dT,zaU]|with_reducible first|intro _|refine aJ ?_)
  exact⟨_,.bool _ _,rfl⟩
 ·
  (refine Qg ?_;intros)
  exact⟨(j+1,zhi e[j] 8 n3),⟨by simp only;omega,by simp only;omega,by simp only;omega,hgo3⟩,by simp only;omega,(Ent.tab [(0,0,0)] [] rfl Qaz Qaz)⟩
theorem Qal {p q:Prop}(k:q)(h:Im q p:=by(repeat first|simp(disch:=try exact dis1) only[evD,Nat.reduceBEq,Nat.reduceAdd,Nat.reduceLeDiff,zdF] | ((with_reducible apply Im.i);intro _) | ((with_reducible apply Im.a);omega));exact Im.r):p:=h k
theorem zuw (g:G) (exit:List Int):zu Tryz.prog zlv [.agg g.cells,za exit] (·=.bool (ztL g exit)):=by
 refine fn_x zu8 rfl ?_;unfold znX ztL;have hB:=hBig;have hsg:=znl g;generalize zuD g=sg at hsg;obtain⟨ad,bl⟩:=g;simp only[G.cells] at hsg ⊢
 by_cases h12:12 < bl.length
 ·
  rw[decide_eq_false (by omega),Wo]
  (repeat first|simp(disch:=try exact dis1) only[evD,Nat.reduceBEq,Nat.reduceAdd,Nat.reduceLeDiff,fldP,dT,za,zdF]|with_reducible first|intro _|refine aJ ?_)
  exact⟨_,.bool _ _,rfl⟩
 rw[decide_eq_true (by omega),Wp]
 by_cases h20:20 < exit.length
 ·
  rw[decide_eq_false (by omega),Wo]
  (repeat first|simp(disch:=try exact dis1) only[evD,Nat.reduceBEq,Nat.reduceAdd,Nat.reduceLeDiff,fldP,dT,dF,za,zdF]|with_reducible first|intro _|refine aJ ?_)
  exact⟨_,.bool _ _,rfl⟩
 rw[decide_eq_true (by omega),Wp]
 (repeat first|simp(disch:=try exact dis1) only[evD,Nat.reduceBEq,Nat.reduceAdd,Nat.reduceLeDiff,fldP,dT,dF,za,zad,tab,WE,WF]|with_reducible first|intro _|refine aJ ?_)
 refine ze (zd hsg rfl) ?_
 cases sg with
 |
  false =>
  rw[Wo]
  (refine Qal ?_;intros)
  exact⟨_,.bool _ _,rfl⟩
 | true =>
 rw[Wp];generalize hR:(bl.all fun b=>decide (b.stmts.length≤12))=R
 (refine Ql ?_;intros)
 refine zk (fun i:Nat=>([(2,encP 2 [.int .u32 ad,encL 2 Bl.cells bl]),(5,.int .i64 i)],[])) 0 (fun i=>i≤bl.length∧((bl.drop i).all fun b=>decide (b.stmts.length≤12))=R) (fun i=>bl.length - i) 0 ⟨Wb _,hR⟩ (Ent.keep rfl fin5) ?_;rintro i ⟨hi,hgo⟩ wf;unfold zj9
 by_cases hil:i < bl.length
 ·
  have hg:(bl.map Bl.cells).getD i []=[.int .u32 bl[i].addr,encL 8 St.cells bl[i].stmts]:=zq hil;rw[Wh hil,Wq] at hgo
  by_cases h:12 < bl[i].stmts.length
  ·
   rw[decide_eq_false (by omega),Wo] at hgo;rw[←hgo]
   (repeat first|simp(disch:=try exact dis1) only[evD,Nat.reduceBEq,Nat.reduceAdd,Nat.reduceLeDiff,fldP,dT,hg,zdF]|with_reducible first|intro _|refine aJ ?_)
   exact⟨_,.bool _ _,rfl⟩
  ·
   rw[decide_eq_true (by omega),Wp] at hgo
   (repeat first|simp(disch:=try exact dis1) only[evD,Nat.reduceBEq,Nat.reduceAdd,Nat.reduceLeDiff,fldP,dT,dF,hg]|with_reducible first|intro _|refine aJ ?_)
   exact⟨i+1,⟨by omega,hgo⟩,by omega,Ent.keep rfl fin5⟩
 ·
  rw[Wi (by omega)] at hgo;rw[←hgo]
  (refine Qh ?_;intros)
  unfold zkp
  (refine Qal ?_;intros)
  exact⟨_,.bool _ _,rfl⟩
mutual
theorem zAG:∀(e:Ex) (m n:Int),0≤zhi e m n→(zbp e:Int)+zhi e m n≤n
 |
  .mk _ _ _ _ l,m,n,h=>by
  rw[zhi] at h ⊢;split
  · rename_i hc;rw[if_pos hc] at h;omega
  · rename_i hc;rw[if_neg hc] at h;have:=zny l (m - 1) (n - 1) (by omega) h;rw[zbp];omega
theorem zny:∀(l:List Ex) (m n:Int),0≤n→0≤zbw l m n→(zF l:Int)+zbw l m n≤n
 | [],m,n,_,h=>by rw[zbw] at h ⊢;rw[zF];omega
 |
  e::l,m,n,hn,h=>by
  rw[zbw,if_neg (by omega)] at h ⊢
  by_cases h0:zhi e m n < 0
  · rw[zlJ h0] at h;omega
  · have h1:=zAG e m n (by omega);have h2:=zny l m _ (by omega) h;rw[zF];omega
end
theorem zpq:∀ {l:List St} {n:Int},0≤n→0≤zgs l n→(zbn 0 l:Int)+zgs l n≤n∧∀s∈l,s.e.length≤4∧s.cases.length≤100
 |
  [],n,hn,h=>by
  rw[zgs] at h ⊢;exact⟨by show ((0:Nat):Int)+n≤n;omega,fun s hs=>by cases hs⟩
 |
  s::l,n,hn,h=>by
  rw[zgs,if_neg (by omega)] at h ⊢
  by_cases h0:zxd s n < 0
  · rw[zku h0] at h;omega
  ·
   obtain⟨h2,h3⟩:=zpq (l:=l) (n:=zxd s n) (by omega) h
   have e:(zbn 0 (s::l):Int)=zF s.e+zbn 0 l:=by show ((zF s.e+0+zbn 0 l:Nat):Int)=_;omega
   unfold zxd at h0 h2;split at h0
   · omega
   ·
    rename_i hc;rw[if_neg hc] at h2;have h4:=zny s.e 8 n hn (by omega);refine⟨?_,fun t ht=>?_⟩
    · rw[e];unfold zxd;rw[if_neg hc];omega
    ·
     rcases Wt.1 ht with rfl|ht
     · omega
     · exact h3 t ht
def zmu (bl:List Bl):Nat:=(bl.map fun b=>zbn 0 b.stmts).sum
theorem zqv:∀ {l:List Bl} {n:Int},0≤n→0≤zgu l n→(zmu l:Int)+zgu l n≤n∧∀b∈l,∀s∈b.stmts,s.e.length≤4∧s.cases.length≤100
 |
  [],n,hn,h=>by
  rw[zgu] at h ⊢;exact⟨by show ((0:Nat):Int)+n≤n;omega,fun s hs=>by cases hs⟩
 |
  b::l,n,hn,h=>by
  rw[zgu,if_neg (by omega)] at h ⊢
  by_cases h0:zwD b n < 0
  · rw[zna h0] at h;omega
  ·
   obtain⟨h2,h3⟩:=zqv (l:=l) (n:=zwD b n) (by omega) h
   have e:(zmu (b::l):Int)=zbn 0 b.stmts+zmu l:=by unfold zmu;rw[Wk,WD];omega
   unfold zwD at h0 h2;split at h0
   · omega
   ·
    rename_i hc;rw[if_neg hc] at h2;obtain⟨h4,h5⟩:=zpq (l:=b.stmts) hn (by omega);refine⟨?_,fun t ht=>?_⟩
    · rw[e];unfold zwD;rw[if_neg hc];omega
    ·
     rcases Wt.1 ht with rfl|ht
     · exact h5
     · exact h3 t ht
theorem zo7:∀ {bl:List Bl} {b:Bl},b∈bl→zbn 0 b.stmts≤zmu bl
 | [],b,h=>by cases h
 |
  x::l,b,h=>by
  have e:zmu (x::l)=zbn 0 x.stmts+zmu l:=by unfold zmu;rw[Wk,WD]
  rcases Wt.1 h with rfl|h
  · omega
  · have:=zo7 h;omega
theorem zDa {k:Nat}:∀ {l:List St},zbn k l=zbn 0 l+k * l.length
 | []=>by simp[zbn]
 |
  s::l=>by
  have e1:zbn k (s::l)=zF s.e+k+zbn k l:=rfl;have e2:zbn 0 (s::l)=zF s.e+0+zbn 0 l:=rfl;rw[e1,e2,zDa (l:=l),Wu,Nat.mul_succ];omega
theorem zvw:∀ {l:List St} {s:St},s∈l→zF s.e≤zbn 0 l
 | [],s,h=>by cases h
 |
  x::l,s,h=>by
  have e:zbn 0 (x::l)=zF x.e+0+zbn 0 l:=rfl
  rcases Wt.1 h with rfl|h
  · omega
  · have:=zvw h;omega
theorem zt2:∀ {l:List St},(l.flatMap zfj).length≤zbn 0 l
 | []=>by simp[zbn]
 |
  s::l=>by
  have e:zbn 0 (s::l)=zF s.e+0+zbn 0 l:=rfl;have:=zt2 (l:=l);have:=zpi s;rw[WS,Wl];omega
theorem zt6 {exit:List Int}:∀ {bl:List Bl},(univ exit bl).length≤exit.length+zmu bl
 | []=>by simp[univ,zmu]
 |
  b::l=>by
  have h:=zt6 (exit:=exit) (bl:=l)
  have e:zmu (b::l)=zbn 0 b.stmts+zmu l:=by unfold zmu;rw[Wk,WD]
  have:=zt2 (l:=b.stmts);unfold univ at h ⊢;rw[Wl] at h ⊢;rw[WS,Wl];omega
theorem zvz {m:Nat}:∀ {l:List Bl},(∀b∈l,b.stmts.length≤m)→zJ l≤l.length * m
 | [],_=>by simp[zJ]
 |
  b::l,h=>by
  have h1:=zvz (l:=l) fun c hc=>h c (List.mem_cons_of_mem _ hc)
  have h2:=h b (by simp);simp only[zJ,Wk,WD,Wu] at h1 ⊢;rw[Nat.succ_mul];omega
structure SmallP (g:G):Prop where
 blocks:g.blocks.length≤12
 stmts:∀b∈g.blocks,b.stmts.length≤12
 parts:∀b∈g.blocks,∀s∈b.stmts,s.e.length≤4∧s.cases.length≤100
 size:zmu g.blocks≤20000
theorem zpl {g:G} {exit:List Int} (h:ztL g exit=true):SmallP g∧exit.length≤20:=by unfold ztL zuD at h;simp only[Wr,decide_eq_true_eq,WG] at h;obtain⟨h1,h2,⟨_,h3⟩,h4⟩:=h;obtain⟨h5,h6⟩:=zqv (n:=20000) (by omega) h3;exact⟨⟨h1,h4,h6,by omega⟩,h2⟩
theorem SmallP.few {g:G} (h:SmallP g):fewB g:=⟨by have:=h.blocks;omega,fun b hb=>by have:=h.stmts b hb;omega⟩
theorem SmallP.cnt {g:G} (h:SmallP g):zJ g.blocks≤144:=by have h1:=zvz h.stmts;have h2:=h.blocks;have:g.blocks.length * 12≤12 * 12:=Nat.mul_le_mul_right 12 h2;omega
theorem SmallP.good {g:G} {exit:List Int} (h:SmallP g) (he:exit.length≤40):GoodB (univ exit g.blocks) exit g.blocks:=by
 have hs:=h.size;have hu:=zt6 (exit:=exit) (bl:=g.blocks);refine⟨fun x hx=>WH _ hx,fun b hb s hs=>zA8 hb hs,fun b hb s hm=>?_,fun b hb=>?_,by have:=h.cnt;omega,by have:=h.blocks;omega⟩
 · have h1:=zvw hm;have h2:=zo7 hb;have h3:=(h.parts b hb s hm).2;exact⟨by omega,by omega⟩
 · have h1:=zDa (k:=exit.length) (l:=b.stmts);have h2:=zo7 hb;have h3:=h.stmts b hb;have h4:exit.length * b.stmts.length≤40 * 12:=Nat.mul_le_mul he h3;omega
theorem zo5 (a:Int):zu Tryz.prog zhm [.int .u32 a] (·=.bool (decide (2147483648≤a))):=by
 refine fn_x zqO rfl ?_;unfold zjN;have hB:=hBig
 (repeat first|simp(disch:=try exact dis1) only[evD,Nat.reduceBEq,Nat.reduceAdd,Nat.reduceLeDiff,zkl]|with_reducible first|intro _|refine aJ ?_)
 exact⟨_,.bool _ _,rfl⟩
theorem zsN (b:Bool):zu Tryz.prog zdR [.bool b] (·=.int .u32 (bif b then 1 else 0)):=by
 refine fn_x zsZ rfl ?_;unfold zmm;have hB:=hBig
 cases b<;>((repeat first|simp(disch:=try exact dis1) only[evD,Nat.reduceBEq,Nat.reduceAdd,Nat.reduceLeDiff,zmx]|with_reducible first|intro _|refine aJ ?_);exact⟨_,.int _ _ _,rfl⟩)
def zuk (a w:Int):Int:=if w=1 then a.tmod 256 else if w=2 then a.tmod 65536 else a
theorem zqA (a w:Int):zu Tryz.prog zhA [.int .u32 a,.int .i64 w] (·=.int .u32 (zuk a w)):=by
 refine fn_x zqc rfl ?_;unfold zjM zuk;have hB:=hBig
 by_cases h1:w=1
 ·
  rw[if_pos h1]
  (repeat first|simp(disch:=try exact dis1) only[evD,Nat.reduceBEq,Nat.reduceAdd,Nat.reduceLeDiff,dT,zec]|with_reducible first|intro _|refine aJ ?_)
  exact⟨_,.int _ _ _,rfl⟩
 by_cases h2:w=2
 ·
  rw[if_neg h1,if_pos h2]
  (repeat first|simp(disch:=try exact dis1) only[evD,Nat.reduceBEq,Nat.reduceAdd,Nat.reduceLeDiff,dT,dF,zec]|with_reducible first|intro _|refine aJ ?_)
  exact⟨_,.int _ _ _,rfl⟩
 ·
  rw[if_neg h1,if_neg h2]
  (repeat first|simp(disch:=try exact dis1) only[evD,Nat.reduceBEq,Nat.reduceAdd,Nat.reduceLeDiff,dF,zec]|with_reducible first|intro _|refine aJ ?_)
  exact⟨_,.int _ _ _,rfl⟩
def itP (f:Int→Int):Nat→Int→Int
 | 0,a=>a
 | n+1,a=>itP f n (f a)
def shlF (a:Int):Int:=IntKind.u32.wrap (a * 2)
theorem zyR (a n:Int) (hn:0≤n):zu Tryz.prog zph [.int .u32 a,.int .u32 n] (·=.int .u32 (itP shlF (n.tmod 32).toNat a)):=by
 refine fn_x zAg rfl ?_;unfold zrN;have hB:=hBig;have h32:0≤n.tmod 32∧n.tmod 32 < 32:=⟨Wv _ hn,Ww _ (by omega)⟩;generalize hR:itP shlF (n.tmod 32).toNat a=R
 (refine Qa ?_;intros)
 refine zk (fun s:Nat × Int=>([(0,.int .u32 s.2),(1,.int .u32 n),(5,.int .u32 s.1)],[])) 0 (fun s=>s.1≤(n.tmod 32).toNat∧itP shlF ((n.tmod 32).toNat - s.1) s.2=R) (fun s=>(n.tmod 32).toNat - s.1) (0,a) ⟨Wb _,hR⟩ (Ent.keep rfl fin5) ?_;rintro⟨i,x⟩ ⟨hi,hgo⟩ wf;simp only at hi hgo;unfold zmw;generalize hm:n.tmod 32=m at *
 by_cases hl:(i:Int) < m
 ·
  rw[show m.toNat - i=(m.toNat - (i+1))+1 by omega,itP] at hgo;have hw:IntKind.u32.wrap ((i:Int)+1)=((i+1:Nat):Int):=IntWalk.u32_in _ ⟨by omega,by omega⟩
  (repeat first|simp(disch:=try exact dis1) only[evD,Nat.reduceBEq,Nat.reduceAdd,Nat.reduceLeDiff,hm,dT,hw]|with_reducible first|intro _|refine aJ ?_)
  exact⟨(i+1,shlF x),⟨by simp only;omega,hgo⟩,by simp only;omega,Ent.keep rfl fin5⟩
 ·
  rw[show m.toNat - i=0 by omega,itP] at hgo
  (repeat first|simp(disch:=try exact dis1) only[evD,Nat.reduceBEq,Nat.reduceAdd,Nat.reduceLeDiff,hm,dF]|with_reducible first|intro _|refine aJ ?_)
  unfold zmQ
  (repeat first|simp(disch:=try exact dis1) only[evD,Nat.reduceBEq,Nat.reduceAdd,Nat.reduceLeDiff,zrK]|with_reducible first|intro _|refine aJ ?_)
  exact⟨_,.int _ _ _,by rw[hgo]⟩
def shrF (a:Int):Int:=IntKind.u32.wrap (a.tdiv 2)
theorem zyS (a n:Int) (hn:0≤n):zu Tryz.prog zo8 [.int .u32 a,.int .u32 n] (·=.int .u32 (itP shrF (n.tmod 32).toNat a)):=by
 refine fn_x zzl rfl ?_;unfold zrE;have hB:=hBig;have h32:0≤n.tmod 32∧n.tmod 32 < 32:=⟨Wv _ hn,Ww _ (by omega)⟩;generalize hR:itP shrF (n.tmod 32).toNat a=R
 (refine Qa ?_;intros)
 refine zk (fun s:Nat × Int=>([(0,.int .u32 s.2),(1,.int .u32 n),(5,.int .u32 s.1)],[])) 0 (fun s=>s.1≤(n.tmod 32).toNat∧itP shrF ((n.tmod 32).toNat - s.1) s.2=R) (fun s=>(n.tmod 32).toNat - s.1) (0,a) ⟨Wb _,hR⟩ (Ent.keep rfl fin5) ?_;rintro⟨i,x⟩ ⟨hi,hgo⟩ wf;simp only at hi hgo;unfold zmR;generalize hm:n.tmod 32=m at *
 by_cases hl:(i:Int) < m
 ·
  rw[show m.toNat - i=(m.toNat - (i+1))+1 by omega,itP] at hgo;have hw:IntKind.u32.wrap ((i:Int)+1)=((i+1:Nat):Int):=IntWalk.u32_in _ ⟨by omega,by omega⟩
  (repeat first|simp(disch:=try exact dis1) only[evD,Nat.reduceBEq,Nat.reduceAdd,Nat.reduceLeDiff,hm,dT,hw]|with_reducible first|intro _|refine aJ ?_)
  exact⟨(i+1,shrF x),⟨by simp only;omega,hgo⟩,by simp only;omega,Ent.keep rfl fin5⟩
 ·
  rw[show m.toNat - i=0 by omega,itP] at hgo
  (repeat first|simp(disch:=try exact dis1) only[evD,Nat.reduceBEq,Nat.reduceAdd,Nat.reduceLeDiff,hm,dF]|with_reducible first|intro _|refine aJ ?_)
  unfold zmE
  (repeat first|simp(disch:=try exact dis1) only[evD,Nat.reduceBEq,Nat.reduceAdd,Nat.reduceLeDiff,zr3]|with_reducible first|intro _|refine aJ ?_)
  exact⟨_,.int _ _ _,by rw[hgo]⟩
theorem zbB (x:Int):0≤IntKind.u32.wrap x∧IntKind.u32.wrap x≤4294967295:=by rw[IntKind.wrap_u32];omega
def R32 (n:Int):Prop:=0≤n∧n≤4294967295
theorem zAj {a w:Int} (h:R32 a):R32 (zuk a w):=by
 obtain⟨h1,h2⟩:=h;unfold zuk;have q1:=Wv 256 h1;have q2:=Ww a (show (0:Int) < 256 by decide);have q3:=Wv 65536 h1;have q4:=Ww a (show (0:Int) < 65536 by decide);split
 · exact⟨q1,by omega⟩
 ·
  split
  · exact⟨q3,by omega⟩
  · exact⟨h1,h2⟩
theorem QN {p q:Prop}(k:q)(h:Im q p:=by(repeat first|simp(disch:=try exact dis1) only[evD,Nat.reduceBEq,Nat.reduceAdd,Nat.reduceLeDiff,dT,dF,zcQ] | ((with_reducible apply Im.i);intro _) | ((with_reducible apply Im.a);omega));exact Im.r):p:=h k
theorem ziy (a w:Int) (ha:R32 a):∃n:Int,zu Tryz.prog zgS [.int .u32 a,.int .i64 w] (·=.int .u32 n)∧R32 n:=by
 have hB:=hBig;have ht:=zqA a w;have hrt:=zAj (w:=w) ha;generalize zuk a w=t at ht hrt
 by_cases h1:w=1
 ·
  by_cases h2:128≤t
  ·
   apply Exists.intro;apply We;refine fn_x zd7 rfl ?_;unfold zcO
   (refine Qa ?_;intros)
   refine ze (zd ht rfl) ?_
   (repeat first|simp(disch:=try exact dis1) only[evD,Nat.reduceBEq,Nat.reduceAdd,Nat.reduceLeDiff,dT,zcQ]|with_reducible first|intro _|refine aJ ?_)
   exact⟨_,.int _ _ _,rfl⟩
   first|exact hrt|exact zbB _
  ·
   apply Exists.intro;apply We;refine fn_x zd7 rfl ?_;unfold zcO
   (refine Qa ?_;intros)
   refine ze (zd ht rfl) ?_
   (refine QN ?_;intros)
   exact⟨_,.int _ _ _,rfl⟩
   first|exact hrt|exact zbB _
 ·
  by_cases h3:w=2
  ·
   by_cases h2:32768≤t
   ·
    apply Exists.intro;apply We;refine fn_x zd7 rfl ?_;unfold zcO
    (refine Qa ?_;intros)
    refine ze (zd ht rfl) ?_
    (refine QN ?_;intros)
    exact⟨_,.int _ _ _,rfl⟩
    first|exact hrt|exact zbB _
   ·
    apply Exists.intro;apply We;refine fn_x zd7 rfl ?_;unfold zcO
    (refine Qa ?_;intros)
    refine ze (zd ht rfl) ?_
    (refine QN ?_;intros)
    exact⟨_,.int _ _ _,rfl⟩
    first|exact hrt|exact zbB _
  ·
   apply Exists.intro;apply We;refine fn_x zd7 rfl ?_;unfold zcO
   (refine Qa ?_;intros)
   refine ze (zd ht rfl) ?_
   (repeat first|simp(disch:=try exact dis1) only[evD,Nat.reduceBEq,Nat.reduceAdd,Nat.reduceLeDiff,dF,zcQ]|with_reducible first|intro _|refine aJ ?_)
   exact⟨_,.int _ _ _,rfl⟩
   first|exact hrt|exact zbB _
def sarF (t a:Int):Int:=IntKind.u32.wrap (IntKind.u32.wrap (a.tdiv 2)+t)
theorem zFL (n t R a:Int) (hn:0≤n) (hR:itP (sarF t) (n.tmod 32).toNat a=R) {K:Kn} {H:AH} {nx:Nat} (hent:Ent 0 K H nx [(0,.int .u32 a),(1,.int .u32 n),(5,.int .u32 t),(6,.int .u32 0)] [] 0) :
  zjG Tryz.prog 0 zip (zbv 0 (seqQ Tryz.prog 0 zis (retK znm fun v H' x=>∃a,Frz H' v a∧a=.int .u32 R))) K H nx:=by
 have hB:=hBig;have h32:0≤n.tmod 32∧n.tmod 32 < 32:=⟨Wv _ hn,Ww _ (by omega)⟩;refine zk (fun s:Nat × Int=>([(0,.int .u32 s.2),(1,.int .u32 n),(5,.int .u32 t),(6,.int .u32 s.1)],[])) 0 (fun s=>s.1≤(n.tmod 32).toNat∧itP (sarF t) ((n.tmod 32).toNat - s.1) s.2=R) (fun s=>(n.tmod 32).toNat - s.1) (0,a) ⟨Wb _,hR⟩ hent ?_;rintro⟨i,x⟩ ⟨hi,hgo⟩ wf;simp only at hi hgo;unfold zip;generalize hm:n.tmod 32=m at *
 by_cases hl:(i:Int) < m
 ·
  rw[show m.toNat - i=(m.toNat - (i+1))+1 by omega,itP] at hgo;have hw:IntKind.u32.wrap ((i:Int)+1)=((i+1:Nat):Int):=IntWalk.u32_in _ ⟨by omega,by omega⟩
  (repeat first|simp(disch:=try exact dis1) only[evD,Nat.reduceBEq,Nat.reduceAdd,Nat.reduceLeDiff,hm,dT,hw]|with_reducible first|intro _|refine aJ ?_)
  exact⟨(i+1,sarF t x),⟨by simp only;omega,hgo⟩,by simp only;omega,Ent.keep rfl fin5⟩
 ·
  rw[show m.toNat - i=0 by omega,itP] at hgo
  (repeat first|simp(disch:=try exact dis1) only[evD,Nat.reduceBEq,Nat.reduceAdd,Nat.reduceLeDiff,hm,dF]|with_reducible first|intro _|refine aJ ?_)
  unfold zis
  (repeat first|simp(disch:=try exact dis1) only[evD,Nat.reduceBEq,Nat.reduceAdd,Nat.reduceLeDiff,znm]|with_reducible first|intro _|refine aJ ?_)
  exact⟨_,.int _ _ _,by rw[hgo]⟩
def sarP (a n:Int):Int:=itP (sarF (if 2147483648≤a then 2147483648 else 0)) (n.tmod 32).toNat a
theorem zzC (a n:Int) (hn:0≤n):zu Tryz.prog zqg [.int .u32 a,.int .u32 n] (·=.int .u32 (sarP a n)):=by
 refine fn_x zyH rfl ?_;unfold zrt;have hB:=hBig;have hng:=zo5 a
 by_cases h:2147483648≤a
 ·
  have hR:itP (sarF 2147483648) (n.tmod 32).toNat a=sarP a n:=by unfold sarP;rw[if_pos h]
  generalize sarP a n=R at hR;rw[decide_eq_true h] at hng
  (refine Qa ?_;intros)
  refine ze (zd hng rfl) ?_
  (refine Qa ?_;intros)
  refine zFL n 2147483648 R a hn hR (Ent.keep rfl fin5)
 ·
  have hR:itP (sarF 0) (n.tmod 32).toNat a=sarP a n:=by unfold sarP;rw[if_neg h]
  generalize sarP a n=R at hR;rw[decide_eq_false h] at hng
  (refine Qa ?_;intros)
  refine ze (zd hng rfl) ?_
  (refine Qa ?_;intros)
  refine zFL n 0 R a hn hR (Ent.keep rfl fin5)
theorem zpQ (b:Bool):R32 (bif b then 1 else 0):=by cases b<;>exact⟨by decide,by decide⟩
theorem zlU {f:Int→Int} (hf:∀x,R32 (f x)):∀(n:Nat) (a:Int),R32 a→R32 (itP f n a)
 | 0,_,h=>h
 | n+1,a,_=>zlU hf n _ (hf a)
theorem zmt {a n:Int} (h:R32 a):R32 (sarP a n):=zlU (fun _=>zbB _) _ _ h
theorem Qj {p q:Prop}(k:q)(h:Im q p:=by(repeat first|simp(disch:=try exact dis1) only[evD,Nat.reduceBEq,Nat.reduceAdd,Nat.reduceLeDiff,dT,dF] | ((with_reducible apply Im.i);intro _) | ((with_reducible apply Im.a);omega));exact Im.r):p:=h k
theorem Qv {p q:Prop}(k:q)(h:Im q p:=by(repeat first|simp(disch:=try exact dis1) only[evD,Nat.reduceBEq,Nat.reduceAdd,Nat.reduceLeDiff,zdI] | ((with_reducible apply Im.i);intro _) | ((with_reducible apply Im.a);omega));exact Im.r):p:=h k
set_option maxHeartbeats 1000000 in
theorem zkr (op a b:Int) (ho:3≤op∧op≤15) (ha:R32 a) (hbr:R32 b):∃n:Int,zu Tryz.prog zih [.int .i64 op,.int .u32 a,.int .u32 b] (·=.tup [.int .u32 n,.int .i64 0])∧R32 n:=by
 have hb:=hbr.1;have hB:=hBig;have hn:=zsN;have hsl:=zyR a b hb;have hsr:=zyS a b hb;have hsa:=zzC a b hb
 have key:∀Q:Prop,(op=3→Q)→(op=4→Q)→(op=5→Q)→(op=6→Q)→(op=7→Q)→(op=8→Q)→(op=9→Q)→(op=10→Q)→(op=11→Q)→(op=12→Q)→(op=13→Q)→(op=14→Q)→(op=15→Q)→Q:=by
  intro Q h3 h4 h5 h6 h7 h8 h9 h10 h11 h12 h13 h14 h15
  by_cases x3:op=3;exact h3 x3
  by_cases x4:op=4;exact h4 x4
  by_cases x5:op=5;exact h5 x5
  by_cases x6:op=6;exact h6 x6
  by_cases x7:op=7;exact h7 x7
  by_cases x8:op=8;exact h8 x8
  by_cases x9:op=9;exact h9 x9
  by_cases x10:op=10;exact h10 x10
  by_cases x11:op=11;exact h11 x11
  by_cases x12:op=12;exact h12 x12
  by_cases x13:op=13;exact h13 x13
  by_cases x14:op=14;exact h14 x14
  by_cases x15:op=15;exact h15 x15
  exfalso;omega
 refine key _ ?_ ?_ ?_ ?_ ?_ ?_ ?_ ?_ ?_ ?_ ?_ ?_ ?_
 all_goals first
  | (intro ho;apply Exists.intro;apply We;refine fn_x zeT rfl ?_;unfold zdG;(refine Qj ?_;intros);(refine Qv ?_;intros);exact⟨_,.tup _ _ _ rfl (fun j x y h1 h2=>match j with|0=>by cases h1;cases h2;exact .int _ _ _|1=>by cases h1;cases h2;exact .int _ _ _|j+2=>by cases h1),rfl⟩;first|exact zbB _|exact zlU (fun _=>zbB _) _ _ ha|exact zmt ha|exact zpQ _)
  | (intro ho;apply Exists.intro;apply We;refine fn_x zeT rfl ?_;unfold zdG;(refine Qj ?_;intros);refine ze (zd hsl rfl) ?_;(refine Qv ?_;intros);exact⟨_,.tup _ _ _ rfl (fun j x y h1 h2=>match j with|0=>by cases h1;cases h2;exact .int _ _ _|1=>by cases h1;cases h2;exact .int _ _ _|j+2=>by cases h1),rfl⟩;first|exact zbB _|exact zlU (fun _=>zbB _) _ _ ha|exact zmt ha|exact zpQ _)
  | (intro ho;apply Exists.intro;apply We;refine fn_x zeT rfl ?_;unfold zdG;(refine Qj ?_;intros);refine ze (zd hsr rfl) ?_;(refine Qv ?_;intros);exact⟨_,.tup _ _ _ rfl (fun j x y h1 h2=>match j with|0=>by cases h1;cases h2;exact .int _ _ _|1=>by cases h1;cases h2;exact .int _ _ _|j+2=>by cases h1),rfl⟩;first|exact zbB _|exact zlU (fun _=>zbB _) _ _ ha|exact zmt ha|exact zpQ _)
  | (intro ho;apply Exists.intro;apply We;refine fn_x zeT rfl ?_;unfold zdG;(refine Qj ?_;intros);refine ze (zd hsa rfl) ?_;(refine Qv ?_;intros);exact⟨_,.tup _ _ _ rfl (fun j x y h1 h2=>match j with|0=>by cases h1;cases h2;exact .int _ _ _|1=>by cases h1;cases h2;exact .int _ _ _|j+2=>by cases h1),rfl⟩;first|exact zbB _|exact zlU (fun _=>zbB _) _ _ ha|exact zmt ha|exact zpQ _)
  | (intro ho;apply Exists.intro;apply We;refine fn_x zeT rfl ?_;unfold zdG;(refine Qj ?_;intros);refine ze (zd (hn _) rfl) ?_;(refine Qv ?_;intros);exact⟨_,.tup _ _ _ rfl (fun j x y h1 h2=>match j with|0=>by cases h1;cases h2;exact .int _ _ _|1=>by cases h1;cases h2;exact .int _ _ _|j+2=>by cases h1),rfl⟩;first|exact zbB _|exact zlU (fun _=>zbB _) _ _ ha|exact zmt ha|exact zpQ _)
structure Sct where
 name:ByteArray
 addr:Int
 data:List Int
 wr:Bool
 ex:Bool
def zqT (l:List Int):AV:=encL 1 (fun n=>[.int .u8 n]) l
def Sct.cells (s:Sct):List AV:=[.str s.name,.int .u32 s.addr,zqT s.data,.bool s.wr,.bool s.ex]
structure Sct.ok (s:Sct):Prop where
 a0:0≤s.addr
 a1:s.addr≤4294967295
 dl:s.data.length≤100000
def zty (s:Sct):Int:=if 4294967295 < s.addr+s.data.length then 4294967295 else s.addr+s.data.length
theorem zAe (s:Sct) (h:s.ok):zu Tryz.prog zmV [.agg s.cells] (·=.int .i64 (zty s)):=by
 refine fn_x zzx rfl ?_;unfold zsc zty;have hB:=hBig;obtain⟨h0,h1,h2⟩:=h;obtain⟨nm,ad,d,wr,ex⟩:=s;simp only at h0 h1 h2;simp only[Sct.cells]
 by_cases hc:4294967295 < ad+d.length
 ·
  rw[if_pos hc]
  (repeat first|simp(disch:=try exact dis1) only[evD,Nat.reduceBEq,Nat.reduceAdd,Nat.reduceLeDiff,fldP,zqT,dT,znz]|with_reducible first|intro _|refine aJ ?_)
  exact⟨_,.int _ _ _,rfl⟩
 ·
  rw[if_neg hc]
  (repeat first|simp(disch:=try exact dis1) only[evD,Nat.reduceBEq,Nat.reduceAdd,Nat.reduceLeDiff,fldP,zqT,dF,znz]|with_reducible first|intro _|refine aJ ?_)
  exact⟨_,.int _ _ _,rfl⟩
def zoK:List Sct→Int→Int→Int
 | [],_,_ => -1
 | s::l,i,a=>if s.addr≤a∧a < zty s then i else zoK l (i+1) a
theorem zy4 {l:List Sct} {i:Nat} {j a:Int} (h:i < l.length):zoK (l.drop i) j a=if l[i].addr≤a∧a < zty l[i] then j else zoK (l.drop (i+1)) (j+1) a:=by rw[Wh h,zoK]
theorem zvZ (l:List Sct) (a:Int) (ha:0≤a∧a≤4294967295) (hl:∀s∈l,s.ok) (hn:l.length≤1000):zu Tryz.prog zkC [encL 5 Sct.cells l,.int .u32 a] (·=.int .i64 (zoK l 0 a)):=by
 refine fn_x zw0 rfl ?_;unfold zpA;have hB:=hBig;generalize hR:zoK l 0 a=R
 (refine Qa ?_;intros)
 refine zk (fun i:Nat=>([(0,encL 5 Sct.cells l),(1,.int .u32 a),(5,.int .i64 i)],[])) 0 (fun i=>i≤l.length∧zoK (l.drop i) i a=R) (fun i=>l.length - i) 0 ⟨Wb _,hR⟩ (Ent.keep rfl fin5) ?_;rintro i ⟨hi,hgo⟩ wf;unfold zll
 by_cases hil:i < l.length
 ·
  have hg:(l.map Sct.cells).getD i []=[.str l[i].name,.int .u32 l[i].addr,zqT l[i].data,.bool l[i].wr,.bool l[i].ex]:=zq (f:=Sct.cells) (d:=[]) hil;have hok:=hl _ (Wg hil);have hen:=zAe l[i] hok;simp only[Sct.cells] at hen;rw[zy4 hil] at hgo
  by_cases h1:l[i].addr≤a
  ·
   (repeat first|simp(disch:=try exact dis1) only[evD,Nat.reduceBEq,Nat.reduceAdd,Nat.reduceLeDiff,dT,hg,fldP]|with_reducible first|intro _|refine aJ ?_)
   refine ze (zd hen rfl) ?_
   by_cases h2:a < zty l[i]
   ·
    rw[if_pos ⟨h1,h2⟩] at hgo
    (repeat first|simp(disch:=try exact dis1) only[evD,Nat.reduceBEq,Nat.reduceAdd,Nat.reduceLeDiff,dT,zl1]|with_reducible first|intro _|refine aJ ?_)
    exact⟨_,.int _ _ _,by rw[hgo]⟩
   ·
    rw[if_neg (fun h=>h2 h.2)] at hgo
    (refine Qg ?_;intros)
    exact⟨i+1,⟨by omega,by rw[←hgo];rfl⟩,by omega,Ent.keep rfl fin5⟩
  ·
   rw[if_neg (by omega)] at hgo
   (repeat first|simp(disch:=try exact dis1) only[evD,Nat.reduceBEq,Nat.reduceAdd,Nat.reduceLeDiff,dT,dF,hg,fldP]|with_reducible first|intro _|refine aJ ?_)
   exact⟨i+1,⟨by omega,by rw[←hgo];rfl⟩,by omega,Ent.keep rfl fin5⟩
 ·
  rw[Wi (by omega),zoK] at hgo;rw[←hgo]
  (refine Qg ?_;intros)
  unfold zlc
  (repeat first|simp(disch:=try exact dis1) only[evD,Nat.reduceBEq,Nat.reduceAdd,Nat.reduceLeDiff,zl1]|with_reducible first|intro _|refine aJ ?_)
  exact⟨_,.int _ _ _,rfl⟩
structure Mem where
 l:List Sct
 c:List (Int × Int)
def celV (x:Int × Int):List AV:=[.int .u32 x.1,.int .u8 x.2]
def memV (m:Mem):AV:=.agg [.bool true,encL 5 Sct.cells m.l,encL 2 celV m.c]
structure Mem.ok (m:Mem):Prop where
 s:∀s∈m.l,s.ok
 n:m.l.length≤1000
 c:m.c.length≤1000000
def zbZ (m:Mem) (a:Int):Int:=if 978944≤a∧a < 983040 then m.l.length else zoK m.l 0 a
theorem zrT (a:Int):∀(l:List Sct) (i:Int),zoK l i a = -1∨∃k:Nat,∃hk:k < l.length,zoK l i a=i+k∧l[k].addr≤a∧a < zty l[k]
 | [],_=>Wm rfl
 |
  s::l,i=>by
  unfold zoK
  by_cases h:s.addr≤a∧a < zty s
  · rw[if_pos h];exact Wc ⟨0,WT _,by omega,h.1,h.2⟩
  ·
   rw[if_neg h]
   rcases zrT a l (i+1) with h1 | ⟨k,hk,h1,h2,h3⟩
   · exact Wm h1
   · exact Wc ⟨k+1,WU hk,by omega,h2,h3⟩
theorem zFv (s:Sct):zty s≤s.addr+s.data.length:=by unfold zty;split<;>omega
theorem Qam {p q:Prop}(k:q)(h:Im q p:=by(repeat first|simp(disch:=try exact dis1) only[evD,Nat.reduceBEq,Nat.reduceAdd,Nat.reduceLeDiff,zfW] | ((with_reducible apply Im.i);intro _) | ((with_reducible apply Im.a);omega));exact Im.r):p:=h k
theorem ziQ (m:Mem) (a:Int) (ha:0≤a∧a≤4294967295) (hm:m.ok):zu Tryz.prog zeX [memV m,.int .u32 a] (·=.int .i64 (zbZ m a)):=by
 refine fn_x zs8 rfl ?_;unfold zmi zbZ;have hB:=hBig;obtain⟨l,c⟩:=m;obtain⟨hs,hn,hc⟩:=hm;simp only at hs hn hc;simp only[memV];have hf:=zvZ l a ha hs hn
 by_cases h1:978944≤a
 ·
  by_cases h2:a < 983040
  ·
   rw[if_pos ⟨h1,h2⟩]
   (repeat first|simp(disch:=try exact dis1) only[evD,Nat.reduceBEq,Nat.reduceAdd,Nat.reduceLeDiff,fldP,dT,zfW]|with_reducible first|intro _|refine aJ ?_)
   exact⟨_,.int _ _ _,rfl⟩
  ·
   rw[if_neg (fun h=>h2 h.2)]
   (refine Qt ?_;intros)
   refine ze (zd hf rfl) ?_
   (refine Qam ?_;intros)
   exact⟨_,.int _ _ _,rfl⟩
 ·
  rw[if_neg (fun h=>h1 h.1)]
  (refine Qh ?_;intros)
  refine ze (zd hf rfl) ?_
  (refine Qam ?_;intros)
  exact⟨_,.int _ _ _,rfl⟩
theorem QA {p q:Prop}(k:q)(h:Im q p:=by(repeat first|simp(disch:=try exact dis1) only[evD,Nat.reduceBEq,Nat.reduceAdd,Nat.reduceLeDiff,dT,dF,zdi] | ((with_reducible apply Im.i);intro _) | ((with_reducible apply Im.a);omega));exact Im.r):p:=h k
theorem zlo (w:Int):zu Tryz.prog zfO [.int .i64 w] (·=.bool (decide (w=1∨w=2∨w=4))):=by
 refine fn_x zqW rfl ?_;unfold zk0;have hB:=hBig
 by_cases h1:w=1
 ·
  rw[decide_eq_true (show w=1∨w=2∨w=4 from Wm h1)]
  (refine QA ?_;intros)
  exact⟨_,.bool _ _,rfl⟩
 by_cases h2:w=2
 ·
  rw[decide_eq_true (show w=1∨w=2∨w=4 from Wc (Wm h2))]
  (refine QA ?_;intros)
  exact⟨_,.bool _ _,rfl⟩
 by_cases h3:w=4
 ·
  rw[decide_eq_true (show w=1∨w=2∨w=4 from Wc (Wc h3))]
  (refine QA ?_;intros)
  exact⟨_,.bool _ _,rfl⟩
 ·
  rw[decide_eq_false (show ¬(w=1∨w=2∨w=4) by omega)]
  (refine QA ?_;intros)
  exact⟨_,.bool _ _,rfl⟩
def Sct.nil:Sct:=⟨⟨#[]⟩,0,[],false,false⟩
def zvC (m:Mem) (a:Int):Int:=if zbZ m a < 0 then 0 else if zbZ m a=m.l.length then IntKind.u32.wrap (983040 - a) else ((m.l.getD (zbZ m a).toNat .nil).data.length:Int) - IntKind.u32.wrap (a - (m.l.getD (zbZ m a).toNat .nil).addr)
theorem zj8 (m:Mem) (a:Int):zbZ m a = -1∨zbZ m a=m.l.length∨∃k:Nat,∃hk:k < m.l.length,zbZ m a=k∧m.l[k].addr≤a∧a < m.l[k].addr+m.l[k].data.length:=by
 unfold zbZ
 by_cases h:978944≤a∧a < 983040
 · rw[if_pos h];exact Wc (Wm rfl)
 ·
  rw[if_neg h]
  rcases zrT a m.l 0 with h1 | ⟨k,hk,h1,h2,h3⟩
  · exact Wm h1
  · have:=zFv m.l[k];exact Wc (Wc ⟨k,hk,by omega,h2,by omega⟩)
theorem zqw (m:Mem) (a:Int) (ha:0≤a∧a≤4294967295) (hm:m.ok):zu Tryz.prog zkJ [memV m,.int .u32 a] (·=.int .i64 (zvC m a)):=by
 refine fn_x zxi rfl ?_;unfold zo3;have hB:=hBig;have hr:=ziQ m a ha hm;have hcs:=zj8 m a;unfold zvC;obtain⟨l,c⟩:=m;obtain⟨hs,hn,hc⟩:=hm;simp only at hs hn hc hcs;simp only;generalize zbZ ⟨l,c⟩ a=r at hr hcs;simp only[memV] at hr ⊢
 (refine Qa ?_;intros)
 refine ze (zd hr rfl) ?_
 rcases hcs with h|h | ⟨k,hk,h,h2,h3⟩
 ·
  subst h;rw[if_pos (by omega)]
  (repeat first|simp(disch:=try exact dis1) only[evD,Nat.reduceBEq,Nat.reduceAdd,Nat.reduceLeDiff,dT,ziw]|with_reducible first|intro _|refine aJ ?_)
  exact⟨_,.int _ _ _,rfl⟩
 ·
  subst h;rw[if_neg (by omega),if_pos rfl];have hw:=zbB (983040 - a)
  (repeat first|simp(disch:=try exact dis1) only[evD,Nat.reduceBEq,Nat.reduceAdd,Nat.reduceLeDiff,fldP,dT,dF,ziw]|with_reducible first|intro _|refine aJ ?_)
  exact⟨_,.int _ _ _,rfl⟩
 ·
  subst h;rw[if_neg (by omega),if_neg (by omega)];have hg:(l.map Sct.cells).getD k []=[.str l[k].name,.int .u32 l[k].addr,zqT l[k].data,.bool l[k].wr,.bool l[k].ex]:=zq (f:=Sct.cells) (d:=[]) hk
  have hgd:l.getD (k:Int).toNat .nil=l[k]:=by rw[Wx,Wa,Wd hk,Wy]
  rw[hgd];have hdl:=(hs _ (Wg hk)).dl;have hw:0≤IntKind.u32.wrap (a - l[k].addr)∧IntKind.u32.wrap (a - l[k].addr)≤4294967295:=zbB _
  (repeat first|simp(disch:=try exact dis1) only[evD,Nat.reduceBEq,Nat.reduceAdd,Nat.reduceLeDiff,fldP,hg,zqT,dT,dF,ziw]|with_reducible first|intro _|refine aJ ?_)
  exact⟨_,.int _ _ _,rfl⟩
def zoV (m:Mem) (a:Int):Int:=if zbZ m a < 0∨zbZ m a=m.l.length then 0 else (m.l.getD (zbZ m a).toNat .nil).data.getD (IntKind.u32.wrap (a - (m.l.getD (zbZ m a).toNat .nil).addr)).toNat 0
theorem zrd (m:Mem) (a:Int) (ha:0≤a∧a≤4294967295) (hm:m.ok):zu Tryz.prog ziM [memV m,.int .u32 a] (·=.int .u8 (zoV m a)):=by
 refine fn_x zrn rfl ?_;unfold zlg;have hB:=hBig;have hr:=ziQ m a ha hm;have hcs:=zj8 m a;unfold zoV;obtain⟨l,c⟩:=m;obtain⟨hs,hn,hc⟩:=hm;simp only at hs hn hc hcs;simp only;generalize zbZ ⟨l,c⟩ a=r at hr hcs;simp only[memV] at hr ⊢
 (refine Qa ?_;intros)
 refine ze (zd hr rfl) ?_
 rcases hcs with h|h | ⟨k,hk,h,h2,h3⟩
 ·
  subst h;rw[if_pos (by omega)]
  (repeat first|simp(disch:=try exact dis1) only[evD,Nat.reduceBEq,Nat.reduceAdd,Nat.reduceLeDiff,dT,zeL]|with_reducible first|intro _|refine aJ ?_)
  exact⟨_,.int _ _ _,rfl⟩
 ·
  subst h;rw[if_pos (by omega)]
  (repeat first|simp(disch:=try exact dis1) only[evD,Nat.reduceBEq,Nat.reduceAdd,Nat.reduceLeDiff,fldP,dT,dF,zeL]|with_reducible first|intro _|refine aJ ?_)
  exact⟨_,.int _ _ _,rfl⟩
 ·
  subst h;rw[if_neg (by omega)];have hg:(l.map Sct.cells).getD k []=[.str l[k].name,.int .u32 l[k].addr,zqT l[k].data,.bool l[k].wr,.bool l[k].ex]:=zq (f:=Sct.cells) (d:=[]) hk
  have hgd:l.getD (k:Int).toNat .nil=l[k]:=by rw[Wx,Wa,Wd hk,Wy]
  rw[hgd];have hok:=hs _ (Wg hk);have hdl:=hok.dl;have h0:=hok.a0;have hw:IntKind.u32.wrap (a - l[k].addr)=a - l[k].addr:=IntWalk.u32_in _ ⟨by omega,by omega⟩
  have hlt:(a - l[k].addr).toNat < l[k].data.length:=by omega
  have hg2:(l[k].data.map (fun n=>[AV.int .u8 n])).getD (a - l[k].addr).toNat []=[.int .u8 l[k].data[(a - l[k].addr).toNat]]:=zq (f:=fun n=>[AV.int .u8 n]) (d:=[]) hlt
  have hg3:l[k].data.getD (a - l[k].addr).toNat 0=l[k].data[(a - l[k].addr).toNat]:=by rw[Wa,Wd hlt,Wy]
  rw[hw,hg3];generalize hd:a - l[k].addr=d at *
  (repeat first|simp(disch:=try exact dis1) only[evD,Nat.reduceBEq,Nat.reduceAdd,Nat.reduceLeDiff,fldP,hg,hw,hd,zqT,hg2,dT,dF,zeL]|with_reducible first|intro _|refine aJ ?_)
  exact⟨_,.int _ _ _,rfl⟩
def zwe (d:Int) (a:Int):List (Int × Int)→Int
 | []=>d
 | x::l=>if x.1=a then x.2 else zwe d a l
theorem zAk {l:List (Int × Int)} {i:Nat} {d a:Int} (h:i < l.length):zwe d a (l.drop i)=if l[i].1=a then l[i].2 else zwe d a (l.drop (i+1)):=by rw[Wh h,zwe]
def zoW (m:Mem) (a:Int):Int:=zwe (zoV m a) a m.c
theorem Qan {p q:Prop}(k:q)(h:Im q p:=by(repeat first|simp(disch:=try exact dis1) only[evD,Nat.reduceBEq,Nat.reduceAdd,Nat.reduceLeDiff,zad] | ((with_reducible apply Im.i);intro _) | ((with_reducible apply Im.a);omega));exact Im.r):p:=h k
theorem zq0 (m:Mem) (a:Int) (ha:0≤a∧a≤4294967295) (hm:m.ok):zu Tryz.prog ziJ [memV m,.int .u32 a] (·=.int .u8 (zoW m a)):=by
 refine fn_x zqU rfl ?_;unfold zk6;have hB:=hBig;have hr:=zrd m a ha hm;generalize hR:zoW m a=R;unfold zoW at hR;generalize zoV m a=d at hr hR;obtain⟨l,c⟩:=m;obtain⟨hs,hn,hc⟩:=hm;simp only at hs hn hc hR;simp only[memV] at hr ⊢
 (refine Qa ?_;intros)
 refine zk (fun i:Nat=>([(1,.int .u32 a),(2,encP 3 [.bool true,encL 5 Sct.cells l,encL 2 celV c]),(5,.int .i64 i)],[])) 0 (fun i=>i≤c.length∧zwe d a (c.drop i)=R) (fun i=>c.length - i) 0 ⟨Wb _,hR⟩ (Ent.keep rfl fin5) ?_;rintro i ⟨hi,hgo⟩ wf;unfold zhH
 by_cases hil:i < c.length
 ·
  have hg:(c.map celV).getD i []=[.int .u32 c[i].1,.int .u8 c[i].2]:=zq (f:=celV) (d:=[]) hil;rw[zAk hil] at hgo
  by_cases h1:c[i].1=a
  ·
   rw[if_pos h1] at hgo
   (repeat first|simp(disch:=try exact dis1) only[evD,Nat.reduceBEq,Nat.reduceAdd,Nat.reduceLeDiff,fldP,dT,hg,zhB]|with_reducible first|intro _|refine aJ ?_)
   exact⟨_,.int _ _ _,by rw[hgo]⟩
  ·
   rw[if_neg h1] at hgo
   (repeat first|simp(disch:=try exact dis1) only[evD,Nat.reduceBEq,Nat.reduceAdd,Nat.reduceLeDiff,fldP,dT,dF,hg]|with_reducible first|intro _|refine aJ ?_)
   exact⟨i+1,⟨by omega,hgo⟩,by omega,Ent.keep rfl fin5⟩
 ·
  rw[Wi (by omega),zwe] at hgo;rw[←hgo]
  (refine Qh ?_;intros)
  unfold zhW
  (refine Qan ?_;intros)
  refine ze (zd hr rfl) ?_
  (repeat first|simp(disch:=try exact dis1) only[evD,Nat.reduceBEq,Nat.reduceAdd,Nat.reduceLeDiff,zhB]|with_reducible first|intro _|refine aJ ?_)
  exact⟨_,.int _ _ _,rfl⟩
def zxf (m:Mem) (a:Int):Nat→Int→Int
 | 0,n=>n
 | i+1,n=>zxf m a i (IntKind.u32.wrap (IntKind.u32.wrap (256 * n)+IntKind.u32.wrap (zoW m (IntKind.u32.wrap (a+i)))))
theorem zuM (m:Mem) (a:Int):∀(i:Nat) (n:Int),0≤n∧n≤4294967295→0≤zxf m a i n∧zxf m a i n≤4294967295
 | 0,_,h=>h
 | i+1,_,_=>zuM m a i _ (zbB _)
def zod (m:Mem) (a w:Int):Int × Int:=if w=1∨w=2∨w=4 then (if zvC m a < w then (0,11) else (zxf m a w.toNat 0,0)) else (0,2)
theorem zzv (m:Mem) (a w:Int):0≤(zod m a w).1∧(zod m a w).1≤4294967295:=by
 unfold zod;split
 ·
  split
  · exact⟨by decide,by decide⟩
  · exact zuM _ _ _ _ ⟨by decide,by decide⟩
 · exact⟨by decide,by decide⟩
theorem Qao {p q:Prop}(k:q)(h:Im q p:=by(repeat first|simp(disch:=try exact dis1) only[evD,Nat.reduceBEq,Nat.reduceAdd,Nat.reduceLeDiff,zia] | ((with_reducible apply Im.i);intro _) | ((with_reducible apply Im.a);omega));exact Im.r):p:=h k
theorem zwd (m:Mem) (a w:Int) (ha:0≤a∧a≤4294967295) (hm:m.ok):zu Tryz.prog znt [memV m,.int .u32 a,.int .i64 w] (·=.tup [.int .u32 (zod m a w).1,.int .i64 (zod m a w).2]):=by
 refine fn_x zxm rfl ?_;unfold zqa;have hB:=hBig
 have hpr:=fun b hb=>zq0 m b hb hm
 have hw0:=zlo w;have hrs:=zqw m a ha hm;generalize hR:zod m a w=R;unfold zod at hR;generalize zvC m a=rs at hrs hR
 by_cases hw:w=1∨w=2∨w=4
 ·
  rw[decide_eq_true hw] at hw0;rw[if_pos hw] at hR;obtain⟨l,c⟩:=m;simp only[memV] at hpr hrs ⊢
  (refine Ql ?_;intros)
  refine ze (zd hw0 rfl) ?_
  (refine Qan ?_;intros)
  refine ze (zd hrs rfl) ?_
  by_cases hl:rs < w
  ·
   rw[if_pos hl] at hR;subst hR
   (repeat first|simp(disch:=try exact dis1) only[evD,Nat.reduceBEq,Nat.reduceAdd,Nat.reduceLeDiff,dT,zia]|with_reducible first|intro _|refine aJ ?_)
   exact⟨_,.tup _ _ _ rfl (fun j x y h1 h2=>match j with|0=>by cases h1;cases h2;exact .int _ _ _|1=>by cases h1;cases h2;exact .int _ _ _|j+2=>by cases h1),rfl⟩
  ·
   rw[if_neg hl] at hR
   have hw3:1≤w∧w≤4:=by omega
   (refine Qg ?_;intros)
   refine zk (fun s:Nat × Int=>([(1,.int .u32 a),(3,encP 3 [.bool true,encL 5 Sct.cells l,encL 2 celV c]),(8,.int .u32 s.2),(9,.int .i64 ((s.1:Int) - 1))],[])) 0 (fun s=>s.1≤4∧(zxf ⟨l,c⟩ a s.1 s.2,0)=R) (fun s=>s.1) (w.toNat,0) ⟨by simp only;omega,hR⟩ (by simp only;rw[show ((w.toNat:Nat):Int) - 1=w - 1 by omega];exact Ent.keep rfl fin5) ?_;rintro⟨i,x⟩ ⟨hi,hgo⟩ wf;simp only at hi hgo;unfold zk8
   match i with
   |
    0 =>
    rw[zxf] at hgo;subst hgo
    (refine Qg ?_;intros)
    unfold zlk
    (refine Qao ?_;intros)
    exact⟨_,.tup _ _ _ rfl (fun j x y h1 h2=>match j with|0=>by cases h1;cases h2;exact .int _ _ _|1=>by cases h1;cases h2;exact .int _ _ _|j+2=>by cases h1),rfl⟩
   |
    i+1 =>
    rw[zxf] at hgo;have hb:IntKind.u32.wrap (i:Int)=i:=IntWalk.u32_in _ ⟨by omega,by omega⟩;have hp:=hpr _ (zbB (a+i))
    have e1:((i+1:Nat):Int) - 1=i:=by omega
    rw[e1]
    (repeat first|simp(disch:=try exact dis1) only[evD,Nat.reduceBEq,Nat.reduceAdd,Nat.reduceLeDiff,dT,hb,zad]|with_reducible first|intro _|refine aJ ?_)
    refine ze (zd hp rfl) ?_
    (refine Qa ?_;intros)
    exact⟨(i,_),⟨by simp only;omega,hgo⟩,by simp only;omega,Ent.keep rfl fin5⟩
 ·
  rw[decide_eq_false hw] at hw0;rw[if_neg hw] at hR;subst hR;obtain⟨l,c⟩:=m;simp only[memV] at hpr hrs ⊢
  (refine Ql ?_;intros)
  refine ze (zd hw0 rfl) ?_
  (refine Qao ?_;intros)
  exact⟨_,.tup _ _ _ rfl (fun j x y h1 h2=>match j with|0=>by cases h1;cases h2;exact .int _ _ _|1=>by cases h1;cases h2;exact .int _ _ _|j+2=>by cases h1),rfl⟩
theorem ziG {α:Type} {sz:Nat} {f:α→List AV} {l:List α} {i:Nat} (h:i≤l.length) (hf:∀a,(f a).length=sz) {H:AH}:zdU sz (.sl sz i fun a j=>((l.map f).getD (Int.toNat 0+a) []).getD j .undef) H=some ((l.take i).map f):=by
 simp only[zdU,Nat.beq_refl,cond_true,WI];apply WV
 · simp<;>omega
 ·
  intro k h1 h2;simp only[WJ,WW] at h1
  have hk:k < l.length:=by omega
  simp only[WX,WY,Int.toNat_zero,Nat.zero_add,List.getElem_take];rw[zq hk,zoQ _ _ _ (by rw[hf];omega),List.drop_zero]
theorem zig {α:Type} {sz:Nat} {f:α→List AV} {l:List α} {i:Nat} (h:i≤l.length) (hf:∀a,(f a).length=sz) {H:AH}:zdU sz (.sl sz (l.length - i) fun a j=>((l.map f).getD (i+a) []).getD j .undef) H=some ((l.drop i).map f):=by
 simp only[zdU,Nat.beq_refl,cond_true,WI];apply WV
 · simp<;>omega
 ·
  intro k h1 h2;simp only[WJ,WW] at h1
  have hk:i+k < l.length:=by omega
  simp only[WX,WY,List.getElem_drop];rw[zq hk,zoQ _ _ _ (by rw[hf];omega),List.drop_zero]
def insC (a b:Int):List (Int × Int)→List (Int × Int)
 | []=>[(a,b)]
 | x::l=>if x.1 < a then x::insC a b l else if x.1=a then (a,b)::l else (a,b)::x::l
theorem zBU {a b:Int}:∀ {i:Nat} {l:List (Int × Int)},(∀j,(h:j < l.length)→j < i→l[j].1 < a)→insC a b l=l.take i++insC a b (l.drop i)
 | 0,l,_=>by simp
 | i+1,[],_=>by simp
 |
  i+1,x::l,h=>by
  have h0:=h 0 (by simp) (by omega);simp only[List.getElem_cons_zero] at h0;rw[insC,if_pos h0,List.take_succ_cons,List.drop_succ_cons,List.cons_append,←zBU (i:=i) fun j hj hji=>h (j+1) (by simpa using hj) (by omega)]
theorem ztq {a b:Int}:∀ {l:List (Int × Int)},(insC a b l).length≤l.length+1
 | []=>by simp[insC]
 |
  x::l=>by
  unfold insC;split
  · have:=ztq (a:=a) (b:=b) (l:=l);simp only[Wu];omega
  · split<;>simp
theorem zCL {H H2:AH} {σ:Nat→Nat→Option (Nat × Nat × Nat)} {D:Nat→Nat→Prop} {t:Bool} {r g:Nat} {l:List Sct} {c:List (Int × Int)} (hD:D r 0) (hg:H.get r 0=some (.row 2 (c.map celV) g)) (hb:c.length≤big) :
  Vw H H2 σ D t (.agg [.bool true,encL 5 Sct.cells l,.own r 0 g 0 c.length]) (memV ⟨l,c⟩) :=
 .agg _ _ _ rfl (fun j x y h1 h2=>match j with
  | 0=>by cases h1;cases h2;exact .bool _ _
  | 1=>by cases h1;cases h2;exact zaq rfl
  |
   2=>by
   cases h1;cases h2;exact zhq hD hg hb (fun a _ j hj=>match j with|0=>.int _ _ _|1=>.int _ _ _|j+2=>absurd hj (by omega))
  | j+3=>by cases h1)
def zp6 (m:Mem) (a b:Int):Mem:=⟨m.l,insC a b m.c⟩
theorem zud (m:Mem) (a b:Int) (hc:m.c.length≤1000000):zu Tryz.prog zlQ [memV m,.int .u32 a,.int .u8 b] (·=memV (zp6 m a b)):=by
 refine fn_x zuG rfl ?_;unfold zn2;have hB:=hBig;generalize hR:memV (zp6 m a b)=R;obtain⟨l,c⟩:=m;simp only[memV,zp6] at hR hc ⊢
 have hl:∀x:Int × Int,(celV x).length=2:=fun _=>rfl
 (refine Qa ?_;intros)
 refine zk (fun i:Nat=>([(1,.int .u32 a),(2,.int .u8 b),(3,.ptr 0 0 0 0 0),(6,.ptr 1 0 0 0 0),(7,.int .i64 i)],[(0,.row 3 [[.bool true,encL 5 Sct.cells l,encL 2 celV c]] 0),(1,.row 3 [[.bool false,.nilsl,.nilsl]] 0)])) 2 (fun i=>i≤c.length∧∀j,(h:j < c.length)→j < i→c[j].1 < a) (fun i=>c.length - i) 0 ⟨Wb _,fun j _ h=>by omega⟩ (Ent.keep rfl fin5) ?_;rintro i ⟨hi,hlt⟩ wf;unfold zko;have hat:=zBU (b:=b) hlt
 have e1:=fun H=>ziG (H:=H) hi hl
 have e2:=fun H=>zig (H:=H) hi hl
 have k1:(c.take i).length=i:=by rw[Wz];omega
 have k2:((c.take i).map celV).take i=(c.take i).map celV:=WA (by rw[WJ];omega);have k3:(((c.take i).map celV)++[[AV.int .u32 a,.int .u8 b]]).take (i+1)=((c.take i).map celV)++[[AV.int .u32 a,.int .u8 b]]:=WA (by simp;omega)
 have k4:(((c.take i).map celV)++[[AV.int .u32 a,.int .u8 b]]).length=i+1:=by simp;omega
 have t1:((i:Int) - 0).toNat=i:=by omega
 have t2:((c.length:Int) - (i:Int)).toNat=c.length - i:=by omega
 by_cases hil:i < c.length
 ·
  have hg:(c.map celV).getD i []=[.int .u32 c[i].1,.int .u8 c[i].2]:=zq (f:=celV) (d:=[]) hil
  by_cases hx:c[i].1 < a
  ·
   (repeat first|simp(disch:=try exact dis1) only[evD,Nat.reduceBEq,Nat.reduceAdd,Nat.reduceLeDiff,dT,hg]|with_reducible first|intro _|refine aJ ?_)
   refine⟨i+1,⟨by omega,fun j hj hji=>?_⟩,by omega,Ent.keep rfl fin5⟩
   by_cases hje:j=i
   · subst hje;exact hx
   · exact hlt j hj (by omega)
  ·
   rw[Wh hil,insC,if_neg hx] at hat
   (repeat first|simp(disch:=try exact dis1) only[evD,Nat.reduceBEq,Nat.reduceAdd,Nat.reduceLeDiff,dT,dF,hg]|with_reducible first|intro _|refine aJ ?_)
   unfold zgG
   by_cases he:c[i].1=a
   ·
    rw[if_pos he] at hat
    have e3:=fun H=>zig (H:=H) (show i+1≤c.length from hil) hl
    have t3:((c.length:Int) - ((i:Int)+1)).toNat=c.length - (i+1):=by omega
    have t4:((i:Int)+1).toNat=i+1:=by omega
    (repeat first|simp(disch:=try exact dis1) only[evD,Nat.reduceBEq,Nat.reduceAdd,Nat.reduceLeDiff,dT,dF,hg,zgv,zf7,e1,e3,zni,znJ,t1,t3,t4,k1,k2,k3,k4,zhb]|with_reducible first|intro _|refine aJ ?_)
    have er:(c.take i).map celV++[[AV.int .u32 a,.int .u8 b]]++(c.drop (i+1)).map celV=(insC a b c).map celV:=by rw[hat];simp[celV]
    have el:i+1+(c.length - (i+1))=(insC a b c).length:=by rw[hat];simp<;>omega
    rw[er,el];exact⟨_,zCL trivial rfl (by rw[←el];omega),hR⟩
   ·
    rw[if_neg he] at hat
    (repeat first|simp(disch:=try exact dis1) only[evD,Nat.reduceBEq,Nat.reduceAdd,Nat.reduceLeDiff,dT,dF,hg,zgv,zf7,e1,e2,zni,znJ,t1,t2,k1,k2,k3,k4,zhb]|with_reducible first|intro _|refine aJ ?_)
    have er:(c.take i).map celV++[[AV.int .u32 a,.int .u8 b]]++(c.drop i).map celV=(insC a b c).map celV:=by rw[hat,←Wh hil];simp[celV]
    have el:i+1+(c.length - i)=(insC a b c).length:=by rw[hat];simp<;>omega
    rw[er,el];exact⟨_,zCL trivial rfl (by rw[←el];omega),hR⟩
 ·
  obtain rfl:i=c.length:=by omega
  (refine Qg ?_;intros)
  unfold zgG;rw[List.take_length] at e1 k3 k4 hat
  (repeat first|simp(disch:=try exact dis1) only[evD,Nat.reduceBEq,Nat.reduceAdd,Nat.reduceLeDiff,dF,zgv,zf7,e1,e2,zni,znJ,t1,t2,k3,k4,zhb]|with_reducible first|intro _|refine aJ ?_)
  have er:c.map celV++[[AV.int .u32 a,.int .u8 b]]++(c.drop c.length).map celV=(insC a b c).map celV:=by rw[hat,WZ,insC];simp[celV]
  have el:c.length+1+(c.length - c.length)=(insC a b c).length:=by rw[hat,WZ,insC];simp
  rw[er,el];exact⟨_,zCL trivial rfl (by rw[←el];omega),hR⟩
def zhp (a:Int):Nat→Nat→Mem→Int→Mem
 | 0,_,m,_=>m
 | k+1,i,m,n=>zhp a k (i+1) (zp6 m (IntKind.u32.wrap (a+i)) (IntKind.u8.wrap (n.tmod 256))) (IntKind.u32.wrap (n.tdiv 256))
theorem zpe (a:Int):∀(k i:Nat) (m:Mem) (n:Int),(zhp a k i m n).l=m.l
 | 0,_,_,_=>rfl
 | k+1,i,m,n=>by rw[zhp,zpe a k];rfl
theorem zu4 (a:Int):∀(k i:Nat) (m:Mem) (n:Int),(zhp a k i m n).c.length≤m.c.length+k
 | 0,_,_,_=>Wj _
 |
  k+1,i,m,n=>by
  have h:=zu4 a k (i+1) (zp6 m (IntKind.u32.wrap (a+i)) (IntKind.u8.wrap (n.tmod 256))) (IntKind.u32.wrap (n.tdiv 256));have h2:=ztq (a:=IntKind.u32.wrap (a+i)) (b:=IntKind.u8.wrap (n.tmod 256)) (l:=m.c);rw[zhp];have h3:(zp6 m (IntKind.u32.wrap (a+i)) (IntKind.u8.wrap (n.tmod 256))).c.length≤m.c.length+1:=h2;omega
def zxg (m:Mem) (a:Int):Bool:=decide (zbZ m a < m.l.length) && !(m.l.getD (zbZ m a).toNat .nil).wr
def zfl (m:Mem) (a w n:Int):Mem × Int:=if w=1∨w=2∨w=4 then (if zvC m a < w then (m,11) else bif zxg m a then (m,12) else (zhp a w.toNat 0 m n,0)) else (m,2)
theorem zvF {m:Mem} {a w n:Int} {b:Nat} (h:m.ok) (hb:m.c.length≤b) (hb2:b+4≤1000000):(zfl m a w n).1.ok∧(zfl m a w n).1.c.length≤b+4:=by
 unfold zfl;split
 ·
  rename_i hw;split
  · exact⟨h,by simp only;omega⟩
  ·
   cases zxg m a
   ·
    have h1:=zu4 a w.toNat 0 m n;simp only[cond_false];refine⟨⟨?_,?_,?_⟩,?_⟩
    · rw[zpe];exact h.s
    · rw[zpe];exact h.n
    · omega
    · omega
   · exact⟨h,by simp only[cond_true];omega⟩
 · exact⟨h,by simp only;omega⟩
theorem zjS {H H2:AH} {σ:Nat→Nat→Option (Nat × Nat × Nat)} {D:Nat→Nat→Prop} {t:Bool} {x y:AV} {e:Int} (h:Vw H H2 σ D t x y):Vw H H2 σ D t (.tup [x,.int .i64 e]) (.tup [y,.int .i64 e]) :=
 .tup _ _ _ rfl (fun j x y h1 h2=>match j with
  | 0=>by cases h1;cases h2;exact h
  | 1=>by cases h1;cases h2;exact .int _ _ _
  | j+2=>by cases h1)
theorem zsE {H H2:AH} {σ:Nat→Nat→Option (Nat × Nat × Nat)} {D:Nat→Nat→Prop} {t:Bool} {l:List Sct} {c:List (Int × Int)}:Vw H H2 σ D t (.agg [.bool true,encL 5 Sct.cells l,encL 2 celV c]) (memV ⟨l,c⟩):=zaq rfl
def zwP (l:List Sct) (c:List (Int × Int)):List (Nat × AObj):=[(0,.row 3 [[.bool true,encL 5 Sct.cells l,encL 2 celV c]] 0),(1,.row 3 [[.bool false,.nilsl,.nilsl]] 0)]
theorem Qap {p q:Prop}(k:q)(h:Im q p:=by(repeat first|simp(disch:=try exact dis1) only[evD,Nat.reduceBEq,Nat.reduceAdd,Nat.reduceLeDiff,zdE] | ((with_reducible apply Im.i);intro _) | ((with_reducible apply Im.a);omega));exact Im.r):p:=h k
theorem zoi (m:Mem) (a w n:Int) (R:Mem × Int) (hw:1≤w∧w≤4) (hc:m.c.length≤999990) (hR:(zhp a w.toNat 0 m n,0)=R) {K:Kn} {H:AH} {nx:Nat}
  (hent:Ent 0 K H nx [(1,.int .u32 a),(2,.int .i64 w),(3,.int .u32 n),(4,.ptr 0 0 0 0 0),(8,.ptr 1 0 0 0 0),(11,.int .i64 0)] (zwP m.l m.c) 2) :
  zjG Tryz.prog 0 zgt (zbv 0 (seqQ Tryz.prog 0 zgc (retK zdE fun v H' x=>∃a,Frz H' v a∧a=.tup [memV R.1,.int .i64 R.2]))) K H nx:=by
 have hB:=hBig;refine zk (fun s:Nat × List (Int × Int) × Int=>([(1,.int .u32 a),(2,.int .i64 w),(3,.int .u32 s.2.2),(4,.ptr 0 0 0 0 0),(8,.ptr 1 0 0 0 0),(11,.int .i64 s.1)],zwP m.l s.2.1)) 2 (fun s=>(s.1:Int)≤w∧s.2.1.length≤m.c.length+s.1∧(zhp a (w.toNat - s.1) s.1 ⟨m.l,s.2.1⟩ s.2.2,0)=R) (fun s=>w.toNat - s.1) (0,m.c,n) ⟨by simp only;omega,by simp only;omega,hR⟩ hent ?_;rintro⟨i,c,n⟩ ⟨hi,hlen,hgo⟩ wf;simp only at hi hgo hlen;unfold zgt zwP
 by_cases hil:(i:Int) < w
 ·
  rw[show w.toNat - i=(w.toNat - (i+1))+1 by omega,zhp] at hgo;have hb:IntKind.u32.wrap (i:Int)=i:=IntWalk.u32_in _ ⟨by omega,by omega⟩;have hwr:=zud ⟨m.l,c⟩ (IntKind.u32.wrap (a+i)) (IntKind.u8.wrap (n.tmod 256)) (by simp only;omega);simp only[memV,zp6] at hwr
  (repeat first|simp(disch:=try exact dis1) only[evD,Nat.reduceBEq,Nat.reduceAdd,Nat.reduceLeDiff,dT,hb]|with_reducible first|intro _|refine aJ ?_)
  refine ze (zd hwr rfl) ?_
  (refine Qa ?_;intros)
  exact⟨(i+1,insC (IntKind.u32.wrap (a+i)) (IntKind.u8.wrap (n.tmod 256)) c,IntKind.u32.wrap (n.tdiv 256)),⟨by first|omega | (simp only;omega),WK ztq (by omega),hgo⟩,by first|omega | (simp only;omega),Ent.keep rfl fin5⟩
 ·
  rw[show w.toNat - i=0 by omega,zhp] at hgo;subst hgo
  (refine Qg ?_;intros)
  unfold zgc
  (refine Qap ?_;intros)
  exact⟨_,zjS zsE,rfl⟩
theorem zob (m:Mem) (a w n:Int) (ha:0≤a∧a≤4294967295) (hn:0≤n∧n≤4294967295) (hm:m.ok) (hc:m.c.length≤999990):zu Tryz.prog ziH [memV m,.int .u32 a,.int .i64 w,.int .u32 n] (·=.tup [memV (zfl m a w n).1,.int .i64 (zfl m a w n).2]):=by
 refine fn_x ztR rfl ?_;unfold zoj;have hB:=hBig;have hw0:=zlo w;have hrs:=zqw m a ha hm;have hrg:=ziQ m a ha hm;have hcs:=zj8 m a;generalize hR:zfl m a w n=R;unfold zfl zxg at hR
 have h0:zvC m a < 1∨0≤zbZ m a:=by
  by_cases h:zbZ m a < 0
  · left;unfold zvC;rw[if_pos h];decide
  · right;omega
 generalize zvC m a=rs at hrs hR h0
 by_cases hw:w=1∨w=2∨w=4
 ·
  have hw3:1≤w∧w≤4:=by clear hR hrs hrg hcs h0;omega
  rw[decide_eq_true hw] at hw0;rw[if_pos hw] at hR;have hl5:=hm.n;obtain⟨l,c⟩:=m;simp only at hcs hR hc hl5;simp only[memV] at hrs hrg ⊢
  (refine Qa ?_;intros)
  refine ze (zd hw0 rfl) ?_
  (refine Qa ?_;intros)
  refine ze (zd hrs rfl) ?_
  by_cases hl:rs < w
  ·
   rw[if_pos hl] at hR;subst hR
   (repeat first|simp(disch:=try exact dis1) only[evD,Nat.reduceBEq,Nat.reduceAdd,Nat.reduceLeDiff,dT,zdE]|with_reducible first|intro _|refine aJ ?_)
   exact⟨_,zjS zsE,rfl⟩
  ·
   rw[if_neg hl] at hR
   (refine Qg ?_;intros)
   refine ze (zd hrg rfl) ?_
   rcases hcs with h|h | ⟨k,hk,h,h2,h3⟩
   · exfalso;clear hR hrs hrg;omega
   ·
    rw[h] at hR ⊢;rw[decide_eq_false (Int.lt_irrefl _),Wo,cond_false] at hR
    (refine Qg ?_;intros)
    exact zoi ⟨l,c⟩ a w n R hw3 hc hR (Ent.keep rfl fin5)
   ·
    have hg:(l.map Sct.cells).getD k []=[.str l[k].name,.int .u32 l[k].addr,zqT l[k].data,.bool l[k].wr,.bool l[k].ex]:=zq (f:=Sct.cells) (d:=[]) hk
    have hgd:l.getD (k:Int).toNat .nil=l[k]:=by rw[Wx,Wa,Wd hk,Wy]
    rw[h] at hR ⊢;rw[decide_eq_true (show (k:Int) < l.length by omega),Wp,hgd] at hR;cases hwr:l[k].wr
    ·
     rw[hwr] at hR;subst hR
     (repeat first|simp(disch:=try exact dis1) only[evD,Nat.reduceBEq,Nat.reduceAdd,Nat.reduceLeDiff,dT,hg,fldP,hwr,zdE]|with_reducible first|intro _|refine aJ ?_)
     exact⟨_,zjS zsE,rfl⟩
    ·
     rw[hwr] at hR
     (repeat first|simp(disch:=try exact dis1) only[evD,Nat.reduceBEq,Nat.reduceAdd,Nat.reduceLeDiff,dT,hg,fldP,hwr]|with_reducible first|intro _|refine aJ ?_)
     exact zoi ⟨l,c⟩ a w n R hw3 hc hR (Ent.keep rfl fin5)
 ·
  rw[decide_eq_false hw] at hw0;rw[if_neg hw] at hR;subst hR;obtain⟨l,c⟩:=m;simp only[memV]
  (refine Qa ?_;intros)
  refine ze (zd hw0 rfl) ?_
  (refine Qap ?_;intros)
  exact⟨_,zjS zsE,rfl⟩
theorem zx3 {n:Int} (h:InR .u32 n):IntKind.u32.wrap n=n:=by have h1:(0:Int)≤n:=h.1;have h2:n≤4294967295:=h.2;exact IntWalk.u32_in _ ⟨h1,h2⟩
def cU (n:Int):List AV:=[.int .u32 n]
def encU (s:List Int):AV:=encL 1 cU s
def stV (s:List Int):AV:=.agg [encL 1 cU s]
def zaL (s:List Int) (v:Int):Int:=if v < 0∨(s.length:Int)≤v then 0 else IntKind.u32.wrap (s.getD v.toNat 0)
theorem zAo (s:List Int) (v:Int):R32 (zaL s v):=by
 unfold zaL;split
 · exact⟨by decide,by decide⟩
 · exact zbB _
theorem zvo (s:List Int) (v:Int):zu Tryz.prog zlx [stV s,.int .i64 v] (·=.int .u32 (zaL s v)):=by
 refine fn_x zu6 rfl ?_;unfold znY zaL stV;have hB:=hBig
 by_cases h1:v < 0
 ·
  rw[if_pos (Wm h1)]
  (repeat first|simp(disch:=try exact dis1) only[evD,Nat.reduceBEq,Nat.reduceAdd,Nat.reduceLeDiff,fldP,dT,zhe]|with_reducible first|intro _|refine aJ ?_)
  exact⟨_,.int _ _ _,rfl⟩
 by_cases h2:(s.length:Int)≤v
 ·
  rw[if_pos (Wc h2)]
  (repeat first|simp(disch:=try exact dis1) only[evD,Nat.reduceBEq,Nat.reduceAdd,Nat.reduceLeDiff,fldP,dT,dF,zhe]|with_reducible first|intro _|refine aJ ?_)
  exact⟨_,.int _ _ _,rfl⟩
 ·
  rw[if_neg (by omega)]
  have hv:v.toNat < s.length:=by omega
  have hg:(s.map cU).getD v.toNat []=[.int .u32 s[v.toNat]]:=zq (f:=cU) (d:=[]) hv
  have hgd:s.getD v.toNat 0=s[v.toNat]:=by rw[Wa,Wd hv,Wy]
  rw[hgd]
  (repeat first|simp(disch:=try exact dis1) only[evD,Nat.reduceBEq,Nat.reduceAdd,Nat.reduceLeDiff,fldP,hg,dT,dF,zhe]|with_reducible first|intro _|refine aJ ?_)
  rename_i hin;exact⟨_,.int _ _ _,by rw[zx3 hin]⟩
theorem zB5 {l:List Int} {H:AH}:zdU 1 (encL 1 cU l) H=some (l.map cU):=zrG (fun _ _=>rfl)
theorem vw_U {H H2:AH} {σ:Nat→Nat→Option (Nat × Nat × Nat)} {D:Nat→Nat→Prop} {t:Bool} {r q g:Nat} {l:List Int} (hD:D r q) (hg:H.get r q=some (.row 1 (l.map cU) g)) (hb:l.length≤big):Vw H H2 σ D t (.own r q g 0 l.length) (encU l) :=
 zhq hD hg hb (fun a _ j hj=>match j with|0=>.int _ _ _|j+1=>absurd hj (by omega))
theorem vw_st {H H2:AH} {σ:Nat→Nat→Option (Nat × Nat × Nat)} {D:Nat→Nat→Prop} {t:Bool} {r q g:Nat} {l:List Int} (hD:D r q) (hg:H.get r q=some (.row 1 (l.map cU) g)) (hb:l.length≤big):Vw H H2 σ D t (.agg [.own r q g 0 l.length]) (stV l) :=
 .agg _ _ _ rfl (fun j x y h1 h2=>match j with
  | 0=>by cases h1;cases h2;exact vw_U hD hg hb
  | j+1=>by cases h1)
def setR (s:List Int) (v n:Int):List Int:=(s++List.replicate (v.toNat+1 - s.length) 0).set v.toNat n
theorem Qbw {p:Prop}(h:p:=by(try simp only[evWB,Nat.reduceBEq,Nat.reduceAdd,Nat.reduceSub,Nat.reduceLeDiff,Nat.reduceLT,implies_true,cU])<;>exact fin2):p:=h
theorem zrZ (s:List Int) (v n:Int) (hs:s.length≤100000) (hv:0≤v∧v < 65536):zu Tryz.prog zm1 [stV s,.int .i64 v,.int .u32 n] (·=stV (setR s v n)):=by
 refine fn_x zza rfl ?_;unfold zrV;have hB:=hBig;generalize hR:stV (setR s v n)=R
 have e0:=fun H=>zB5 (l:=s) (H:=H)
 unfold stV
 (repeat first|simp(disch:=try exact dis1) only[evD,Nat.reduceBEq,Nat.reduceAdd,Nat.reduceLeDiff,fldP,e0]|with_reducible first|intro _|refine aJ ?_)
 refine zk (fun x:List Int × Nat=>([(1,.int .i64 v),(2,.int .u32 n),(6,.ptr 0 0 0 0 0),(7,.own 1 0 x.2 0 x.1.length)],[(0,.row 1 [[.nilsl]] 0),(1,.row 1 (x.1.map cU) x.2)])) 2 (fun x=>∃k:Nat,x.1=s++List.replicate k 0∧k≤v.toNat+1 - s.length) (fun x=>v.toNat+1 - x.1.length) (s,1) ⟨0,by simp,Wb _⟩ (Ent.keep rfl fin5) ?_;rintro⟨L,g⟩ ⟨k,hL,hk⟩ wf;simp only at hL hk;unfold zmX
 have hlen:L.length=s.length+k:=by rw[hL];simp
 by_cases h:(L.length:Int)≤v
 ·
  have k1:(L.map cU).take L.length=L.map cU:=WA (by simp)
  have k2:(L.map cU++[[AV.int .u32 0]]).length=L.length+1:=by simp
  (repeat first|simp(disch:=try exact dis1) only[evD,Nat.reduceBEq,Nat.reduceAdd,Nat.reduceLeDiff,dT,k1,k2]|with_reducible first|intro _|refine aJ ?_)
  refine⟨(L++[0],g+1),⟨k+1,by rw[hL];simp[List.replicate_succ'],by omega⟩,by simp only[Wl,WL];omega,?_⟩;simp only[Wl,WL,WM,Wk,WN];exact(Ent.tab [(0,0,0),(1,1,0)] [] rfl Qbw Qbw)
 ·
  obtain rfl:k=v.toNat+1 - s.length:=by omega
  (refine Qg ?_;intros)
  unfold zm3
  (repeat first|simp(disch:=try exact dis1) only[evD,Nat.reduceBEq,Nat.reduceAdd,Nat.reduceLeDiff,dT,zrv]|with_reducible first|intro _|refine aJ ?_)
  rw[show ((L.map cU).set v.toNat [AV.int .u32 n])=(setR s v n).map cU by unfold setR;rw[←hL,List.map_set];rfl,show L.length=(setR s v n).length by unfold setR;rw[←hL,List.length_set]];exact⟨_,vw_st trivial rfl (by unfold setR;rw[←hL,List.length_set];omega),hR⟩
end Go.Ab
namespace Go.Ab
open Go.RowKit Go.Proofs Go.Proofs.YtdhlfajcofgpkaaGreat Go.ChangeShapes Go.WideShapes
theorem open_words {HH:Type} {enc:TypeId × Value→HH} {w:World} {base b2:Nat} {spare:Nat→Bool} {held:Bool} {L:Nat→Prop} (hL:∀b,¬L b)
  {v:Value} {d:DataW HH} {ps:List MemPlace} (hv:Value.okWide Tryz.prog w .any base 27 v) (h:DataW.Trod enc Tryz.prog w b2 spare held 27 v d ps):∃l:List Int,True∧∀ι,VR w L ι v (encL 1 cU l) :=
 zrQ hL Tryz.underlying27 Tryz.underlying22 (by kernel_rfl) hv h
end Go.Ab
namespace Go.Ab
open Go.RowKit Go.Proofs
open Classical in
noncomputable def zvp (op a b:Int):Int:=if h:(3≤op∧op≤15)∧R32 a∧R32 b then (zkr op a b h.1 h.2.1 h.2.2).choose else 0
theorem zCp {op a b:Int} (ho:3≤op∧op≤15) (ha:R32 a) (hb:R32 b):zu Tryz.prog zih [.int .i64 op,.int .u32 a,.int .u32 b] (·=.tup [.int .u32 (zvp op a b),.int .i64 0]):=by unfold zvp;rw[dif_pos ⟨ho,ha,hb⟩];exact(zkr op a b ho ha hb).choose_spec.1
theorem zzc (op a b:Int):R32 (zvp op a b):=by
 unfold zvp;split
 · rename_i h;exact(zkr op a b h.1 h.2.1 h.2.2).choose_spec.2
 · exact⟨by decide,by decide⟩
open Classical in
noncomputable def extP (a w:Int):Int:=if h:R32 a then (ziy a w h).choose else 0
theorem zGJ {a w:Int} (ha:R32 a):zu Tryz.prog zgS [.int .u32 a,.int .i64 w] (·=.int .u32 (extP a w)):=by unfold extP;rw[dif_pos ha];exact(ziy a w ha).choose_spec.1
theorem zFq (a w:Int):R32 (extP a w):=by
 unfold extP;split
 · rename_i h;exact(ziy a w h).choose_spec.2
 · exact⟨by decide,by decide⟩
noncomputable def zr4 (m:Mem) (s:List Int) (op n v w:Int) (r:List (Int × Int)):Int × Int :=
 if op=1 then (IntKind.u32.wrap n,0)
 else if op=2 then (zaL s v,0)
 else if (r.getD 0 (0,0)).2≠0 then (0,(r.getD 0 (0,0)).2)
 else if op=16 then (if (r.getD 0 (0,0)).1=0 then 1 else 0,0)
 else if op=17 then (IntKind.u32.wrap (0 - (r.getD 0 (0,0)).1),0)
 else if op=18 then zod m (r.getD 0 (0,0)).1 w
 else if op=19 then (extP (r.getD 0 (0,0)).1 w,0)
 else if (r.getD 1 (0,0)).2≠0 then (0,(r.getD 1 (0,0)).2)
 else (zvp op (r.getD 0 (0,0)).1 (r.getD 1 (0,0)).1,0)
mutual
noncomputable def zhD (m:Mem) (s:List Int):Ex→Int × Int
 | .mk op n v w l=>zr4 m s op n v w (zda m s l)
noncomputable def zda (m:Mem) (s:List Int):List Ex→List (Int × Int)
 | []=>[]
 | e::l=>zhD m s e::zda m s l
end
theorem znr (m:Mem) (s:List Int):∀l:List Ex,zda m s l=l.map (zhD m s)
 | []=>by rw[zda];rfl
 | e::l=>by rw[zda,znr m s l];rfl
theorem zpX (m:Mem) (s:List Int) (e:Ex):R32 (zhD m s e).1:=by
 obtain⟨op,n,v,w,l⟩:=e;rw[zhD];unfold zr4
 repeat' split
 all_goals first
  | exact zbB _
  | exact⟨Int.le_refl 0,by show (0:Int)≤4294967295;decide⟩
  | exact zAo _ _
  | exact zzv _ _ _
  | exact zFq _ _
  | exact zzc _ _ _
  | exact⟨by decide,by decide⟩
theorem zoL {H H2:AH} {σ:Nat→Nat→Option (Nat × Nat × Nat)} {D:Nat→Nat→Prop} {t:Bool} {a e:Int}:Vw H H2 σ D t (.tup [.int .u32 a,.int .i64 e]) (.tup [.int .u32 a,.int .i64 e]):=zjS (.int _ _ _)
theorem Qm {p q:Prop}(k:q)(h:Im q p:=by(repeat first|simp(disch:=try exact dis1) only[evD,Nat.reduceBEq,Nat.reduceAdd,Nat.reduceLeDiff,fldP,zad,dT,dF] | ((with_reducible apply Im.i);intro _) | ((with_reducible apply Im.a);omega));exact Im.r):p:=h k
theorem QB {p q:Prop}(k:q)(h:Im q p:=by(repeat first|simp(disch:=try exact dis1) only[evD,Nat.reduceBEq,Nat.reduceAdd,Nat.reduceLeDiff,zbx] | ((with_reducible apply Im.i);intro _) | ((with_reducible apply Im.a);omega));exact Im.r):p:=h k
theorem QO {p q:Prop}(k:q)(h:Im q p:=by(repeat first|simp(disch:=try exact dis1) only[evD,Nat.reduceBEq,Nat.reduceAdd,Nat.reduceLeDiff,fldP,dT,dF,zbx] | ((with_reducible apply Im.i);intro _) | ((with_reducible apply Im.a);omega));exact Im.r):p:=h k
theorem Qaq {p q:Prop}(k:q)(h:Im q p:=by(repeat first|simp(disch:=try exact dis1) only[evD,Nat.reduceBEq,Nat.reduceAdd,Nat.reduceLeDiff,dT,zbx] | ((with_reducible apply Im.i);intro _) | ((with_reducible apply Im.a);omega));exact Im.r):p:=h k
theorem zv1 (m:Mem) (s:List Int) (hm:m.ok):∀(k:Nat) (e:Ex),zbp e≤k→zdr e=true→zu Tryz.prog zhK [.agg (encX e),stV s,memV m] (·=.tup [.int .u32 (zhD m s e).1,.int .i64 (zhD m s e).2]):=by
 intro k
 induction k with
 | zero=>intro e h;obtain⟨_,_,_,_,l⟩:=e;rw[zbp] at h;omega
 | succ k ih =>
 intro e hk hf;obtain⟨op,nn,v,w,l⟩:=e;refine fn_x zwA rfl ?_;unfold zo2;have hB:=hBig;rw[zbp] at hk;rw[zdr,Wr] at hf;obtain⟨hfl,hsh⟩:=hf;unfold zw at hsh;have hsh:=of_decide_eq_true hsh;rw[zce,WG] at hfl;rw[zbl,zhD];generalize hR:zr4 m s op nn v w (zda m s l)=R;unfold zr4 at hR;have hval:=zvo s v
 by_cases h1:op=1
 ·
  rw[if_pos h1] at hR;subst hR;simp only[stV,memV]
  (repeat first|simp(disch:=try exact dis1) only[evD,Nat.reduceBEq,Nat.reduceAdd,Nat.reduceLeDiff,fldP,dT,zbx]|with_reducible first|intro _|refine aJ ?_)
  rename_i hin;rw[zx3 hin];exact⟨_,zoL,rfl⟩
 by_cases h2:op=2
 ·
  rw[if_neg h1,if_pos h2] at hR;subst hR;simp only[stV,memV] at hval ⊢
  (refine Qm ?_;intros)
  refine ze (zd hval rfl) ?_
  (refine QB ?_;intros)
  exact⟨_,zoL,rfl⟩
 have hl1:1≤l.length:=by omega
 have hl0:0 < l.length:=by omega
 have hg0:(l.map encX).getD (Int.toNat 0) []=encX l[0]:=zq (f:=encX) (d:=[]) hl0;have hs0:=zcx (Wg hl0)
 have hr0:(zda m s l).getD 0 (0,0)=zhD m s l[0]:=by rw[znr];exact zq hl0
 have hc0:=ih l[0] (by omega) (hfl _ (Wg hl0));have hrg0:=zpX m s l[0];rw[if_neg h1,if_neg h2,hr0] at hR;generalize zhD m s l[0]=A at hc0 hR hrg0;obtain⟨a,f⟩:=A;simp only at hR hc0 hrg0;simp only[stV,memV] at hc0 ⊢
 (repeat first|simp(disch:=try exact dis1) only[evD,Nat.reduceBEq,Nat.reduceAdd,Nat.reduceLeDiff,fldP,zad,hg0,zaJ,zal,dT,dF]|with_reducible first|intro _|refine aJ ?_)
 refine zai (zd hc0 (flX rfl)) ?_
 by_cases hf0:f=0
 ·
  rw[if_neg (show ¬f≠0 from fun h=>h hf0)] at hR
  by_cases h16:op=16
  ·
   rw[if_pos h16] at hR
   by_cases ha:a=0
   ·
    rw[if_pos ha] at hR;subst hR
    (refine QO ?_;intros)
    exact⟨_,zoL,rfl⟩
   ·
    rw[if_neg ha] at hR;subst hR
    (refine QO ?_;intros)
    exact⟨_,zoL,rfl⟩
  rw[if_neg h16] at hR
  by_cases h17:op=17
  ·
   rw[if_pos h17] at hR;subst hR
   (refine QO ?_;intros)
   exact⟨_,zoL,rfl⟩
  rw[if_neg h17] at hR
  by_cases h18:op=18
  ·
   rw[if_pos h18] at hR;subst hR;have hld:=zwd m a w hrg0 hm;simp only[memV] at hld
   (refine Qm ?_;intros)
   refine ze (zd hld rfl) ?_
   (refine QB ?_;intros)
   exact⟨_,zoL,rfl⟩
  rw[if_neg h18] at hR
  by_cases h19:op=19
  ·
   rw[if_pos h19] at hR;subst hR;have hex:=zGJ (w:=w) hrg0
   (refine Qm ?_;intros)
   refine ze (zd hex rfl) ?_
   (refine QB ?_;intros)
   exact⟨_,zoL,rfl⟩
  rw[if_neg h19] at hR
  have hop:3≤op∧op≤15:=by clear hR;omega
  have hlb:1 < l.length:=by clear hR;omega
  have hg1:(l.map encX).getD (Int.toNat 1) []=encX l[1]:=zq (f:=encX) (d:=[]) hlb;have hs1:=zcx (Wg hlb)
  have hr1:(zda m s l).getD 1 (0,0)=zhD m s l[1]:=by rw[znr];exact zq hlb
  have hc1:=ih l[1] (by omega) (hfl _ (Wg hlb));have hrg1:=zpX m s l[1];rw[hr1] at hR;generalize zhD m s l[1]=B at hc1 hR hrg1;obtain⟨b,f1⟩:=B;simp only at hR hc1 hrg1;simp only[stV,memV] at hc1
  (repeat first|simp(disch:=try exact dis1) only[evD,Nat.reduceBEq,Nat.reduceAdd,Nat.reduceLeDiff,fldP,zad,hg1,zaJ,zal,dT,dF]|with_reducible first|intro _|refine aJ ?_)
  refine zai (zd hc1 (flX rfl)) ?_
  by_cases hf1:f1=0
  ·
   rw[if_neg (show ¬f1≠0 from fun h=>h hf1)] at hR;subst hR;have hap:=zCp hop hrg0 hrg1
   (refine Qt ?_;intros)
   refine ze (zd hap rfl) ?_
   (refine QB ?_;intros)
   exact⟨_,zoL,rfl⟩
  ·
   rw[if_pos hf1] at hR;subst hR
   (refine Qaq ?_;intros)
   exact⟨_,zoL,rfl⟩
 ·
  rw[if_pos hf0] at hR;subst hR
  (refine Qaq ?_;intros)
  exact⟨_,zoL,rfl⟩
noncomputable def zkO (m:Mem) (s:List Int) (e:Ex):Int × Int:=if zcj e≠0 then (0,zcj e) else zhD m s e
theorem zpS {e:Ex} (h:zcj e=0):zdr e=true:=by
 unfold zcj at h;cases hf:zdr e
 ·
  rw[hf] at h;split at h
  · cases h
  · cases h
 · rfl
theorem Qar {p q:Prop}(k:q)(h:Im q p:=by(repeat first|simp(disch:=try exact dis1) only[evD,Nat.reduceBEq,Nat.reduceAdd,Nat.reduceLeDiff,zad,zaJ,zb,zal] | ((with_reducible apply Im.i);intro _) | ((with_reducible apply Im.a);omega));exact Im.r):p:=h k
theorem zwt (m:Mem) (s:List Int) (hm:m.ok) (e:Ex):zu Tryz.prog znf [.agg (encX e),stV s,memV m] (·=.tup [.int .u32 (zkO m s e).1,.int .i64 (zkO m s e).2]):=by
 refine fn_x zxo rfl ?_;unfold zqB zkO;have hB:=hBig;have hc:=zi0 e;simp only[stV,memV]
 by_cases h:zcj e=0
 ·
  have hev:=zv1 m s hm (zbp e) e (Wj _) (zpS h);simp only[stV,memV] at hev;rw[if_neg (show ¬zcj e≠0 from fun h2=>h2 h)];rw[h] at hc
  (refine Qar ?_;intros)
  refine ze (zd hc (flX rfl)) ?_
  (repeat first|simp(disch:=try exact dis1) only[evD,Nat.reduceBEq,Nat.reduceAdd,Nat.reduceLeDiff,dF,zad,zaJ,zb,zal]|with_reducible first|intro _|refine aJ ?_)
  refine ze (zd hev (flX rfl)) ?_
  (repeat first|simp(disch:=try exact dis1) only[evD,Nat.reduceBEq,Nat.reduceAdd,Nat.reduceLeDiff,zlL]|with_reducible first|intro _|refine aJ ?_)
  exact⟨_,zoL,rfl⟩
 ·
  rw[if_pos h]
  (refine Qar ?_;intros)
  refine ze (zd hc (flX rfl)) ?_
  (repeat first|simp(disch:=try exact dis1) only[evD,Nat.reduceBEq,Nat.reduceAdd,Nat.reduceLeDiff,dT,zlL]|with_reducible first|intro _|refine aJ ?_)
  exact⟨_,zoL,rfl⟩
structure Pg where
 gs:List G
 secs:List Sct
 entry:Int
structure Fr where
 id:Nat
 g:Int
 b:Int
 a:Int
 vs:List Int
structure Rn where
 vs:List Int
 m:Mem
 tk:Int
 g:Int
 b:Int
 a:Int
 fr:List Fr
 err:Int
 out:List Int
 st:Int
 ov:Bool
structure Hd where
 tr:List Int
 gt:Nat
 go:Nat
 gc:Nat
 stale:List (List AV)
def rnC (p:Pg) (inp:List Int) (r:Rn) (h:Hd):List AV:=[encL 2 G.cells p.gs,encL 5 Sct.cells p.secs,.int .u32 p.entry,encL 1 cU r.vs,.bool true,encL 5 Sct.cells r.m.l,encL 2 celV r.m.c,encL 1 cU inp,.int .i64 r.tk,.int .i64 r.g,.int .i64 r.b,.int .i64 r.a,.own 3 0 h.gc 0 r.fr.length,.own 1 0 h.gt 0 h.tr.length,.int .i64 r.err,.own 2 0 h.go 0 r.out.length,.int .i64 r.st,.bool r.ov]
def Fr.cells (f:Fr):List AV:=[.int .i64 f.g,.int .i64 f.b,.int .i64 f.a,.own f.id 0 0 0 f.vs.length]
def rnH (p:Pg) (inp:List Int) (r:Rn) (h:Hd) (T:AH):AH:=(0,.row 18 [rnC p inp r h] 0)::(1,.row 1 (h.tr.map cU) h.gt)::(2,.row 1 (r.out.map cU) h.go)::(3,.row 4 (r.fr.map Fr.cells++h.stale) h.gc)::T
structure TOk (N:Nat) (T:AH):Prop where
 four:4≤N
 num:∀r o,T.look r=some o→4≤r∧r < N
 low:zem N T
 flt:∀r o,T.look r=some o→∃sz els g,o=.row sz els g∧zy els
structure FOk (T:AH) (fr:List Fr):Prop where
 row:∀f∈fr,T.look f.id=some (.row 1 (f.vs.map cU) 0)
 dis:(fr.map Fr.id).Nodup
theorem zjj {l:List Int}:∀c∈l.map cU,zM c=true:=fun c hc=>by obtain⟨a,_,rfl⟩:=WO.1 hc;rfl
theorem zyu {p:Pg} {inp:List Int} {r:Rn} {h:Hd} {T:AH} {N:Nat} (hT:TOk N T) (hF:FOk T r.fr) (hs:zy h.stale):zem N (rnH p inp r h T):=by
 have h4:=hT.four;refine⟨⟨by omega,?_⟩,⟨by omega,zbV zjj⟩,⟨by omega,zbV zjj⟩,⟨by omega,?_⟩,hT.low⟩
 ·
  intro c hc;rw[WP.1 hc]
  have e1:Wn 1 N=true:=by rw[Wf];omega
  have e2:Wn 2 N=true:=by rw[Wf];omega
  have e3:Wn 3 N=true:=by rw[Wf];omega
  simp only[rnC,Wq,WB,AV.lt0,encL,e1,e2,e3,WC]
 ·
  intro c hc
  rcases WQ.1 hc with hc|hc
  ·
   obtain⟨f,hf,rfl⟩:=WO.1 hc;have:=(hT.num _ _ (hF.row f hf)).2
   have e:Wn f.id N=true:=by rw[Wf];exact this
   simp only[Fr.cells,Wq,WB,AV.lt0,e,WC]
  · exact zsa (hs c hc)
theorem zG {a:Nat × AObj} {A B:AH} (h:∀r o,A.look r=some o→B.look r=some o):∀r o,AH.look (a::A) r=some o→AH.look (a::B) r=some o:=by
 intro r o;obtain⟨j,x⟩:=a;simp only[AH.look];cases Nat.beq j r
 · exact h r o
 · exact id
theorem zsO {T:AH} {N:Nat} {x:AObj} (h:T.look N=none):∀r o,T.look r=some o→(T.put N x).look r=some o:=by
 intro r o hr;rw[AH.look_put];split
 · rename_i e;rw[e,h] at hr;cases hr
 · exact hr
theorem zE {T:AH} {N:Nat} {x:AObj}:(T.put N x).look N=some x:=by rw[AH.look_put,if_pos rfl]
theorem zeH {n r sz g:Nat} {els:List (List AV)} (hr:r < n) (he:zkY n els):∀ {T:AH},zem n T→zem n (T.put r (.row sz els g))
 | [],_=>⟨⟨hr,he⟩,trivial⟩
 |
  (j,.row s e g0)::t,h=>by
  simp only[AH.put];cases Nat.beq j r
  · exact⟨h.1,zeH hr he h.2⟩
  · exact⟨⟨hr,he⟩,h.2⟩
 |
  (j,.fam s ins)::t,h=>by
  simp only[AH.put];cases Nat.beq j r
  · exact⟨h.1,zeH hr he h.2⟩
  · exact⟨⟨hr,he⟩,h.2⟩
theorem TOk.put {N M r sz g:Nat} {T:AH} {els:List (List AV)} (h:TOk N T) (hm:zem M T) (hN:N≤M) (h4:4≤r) (hr:r < M) (he:∀c∈els,zM c=true):TOk M (T.put r (.row sz els g)):=by
 have:=h.four;refine⟨by omega,fun x o hx=>?_,zeH hr (zbV he) hm,fun x o hx=>?_⟩
 ·
  rw[AH.look_put] at hx;split at hx
  · rename_i e;subst e;exact⟨h4,hr⟩
  · have:=h.num _ _ hx;exact⟨this.1,by omega⟩
 ·
  rw[AH.look_put] at hx;split at hx
  · cases hx;exact⟨_,_,_,rfl,he⟩
  · exact h.flt _ _ hx
theorem FOk.put {T:AH} {fr:List Fr} {r:Nat} {o:AObj} (h:FOk T fr) (hr:∀f∈fr,f.id≠r):FOk (T.put r o) fr :=
 ⟨fun f hf=>by rw[AH.look_put,if_neg (hr f hf)];exact h.row f hf,h.dis⟩
theorem zkw {n m:Nat} (h:n≤m) {els:List (List AV)} (he:zkY n els):zkY m els:=fun c hc=>by
 have:=he c hc;rw[WG] at this ⊢;intro a ha;have h1:=this a ha
 cases a<;>simp only[AV.lt0,Wf] at h1 ⊢<;>first|rfl|omega|cases h1
theorem zX {n m:Nat} (h:n≤m):∀ {T:AH},zem n T→zem m T
 | [],_=>trivial
 | (_,.row ..)::_,ht=>⟨⟨W0 ht.1.1 h,zkw h ht.1.2⟩,zX h ht.2⟩
 | (_,.fam ..)::_,ht=>⟨⟨W0 ht.1.1 h,fun p hp=>zkw h (ht.1.2 p hp)⟩,zX h ht.2⟩
theorem FOk.ne {N:Nat} {T:AH} {fr:List Fr} (h:FOk T fr) (hT:TOk N T) {r:Nat} (hr:N≤r):∀f∈fr,f.id≠r:=fun f hf=>by have:=(hT.num _ _ (h.row f hf)).2;omega
theorem zcz {a b c d:AObj} {T:AH} {x:Nat} (hx:4≤x):AH.look ((0,a)::(1,b)::(2,c)::(3,d)::T) x=T.look x:=by simp only[AH.look,zbJ (show 0≠x by omega),zbJ (show 1≠x by omega),zbJ (show 2≠x by omega),zbJ (show 3≠x by omega),cond_false]
theorem zmv {a b c d:AObj} {T:AH} {x sz g:Nat} {els:List (List AV)} (hx:4≤x) (h:T.look x=some (.row sz els g)):AH.get ((0,a)::(1,b)::(2,c)::(3,d)::T) x 0=some (.row sz els g):=by unfold AH.get;rw[zcz hx,h];rfl
theorem zcV (p:Pg) (inp:List Int) (r:Rn) (h:Hd) (T:AH) (N:Nat) (e:Int):zab Tryz.prog z8 [.ptr 0 0 0 0 0,.int .i64 e] (rnH p inp r h T) N
  (fun v H nx=>v=.tup []∧H=rnH p inp { r with err:=e,ov:=true } h T∧nx=N):=by
 refine fn_x znk rfl ?_;unfold zhM rnH rnC;have hB:=hBig
 (repeat first|simp(disch:=try exact dis1) only[evD,Nat.reduceBEq,Nat.reduceAdd,Nat.reduceLeDiff,zhT]|with_reducible first|intro _|refine aJ ?_)
theorem zdO (p:Pg) (inp:List Int) (r:Rn) (h:Hd) (T:AH) (N:Nat) (b:Int) (g:Nat) (k:Nat) (hg:g < p.gs.length) (hrg:r.g=g) (hk:k < p.gs[g].blocks.length) (hb:b=k) (ht:h.tr.length≤100000) (hT:TOk N T) (hF:FOk T r.fr) (hst:zy h.stale):zab Tryz.prog zaa [.ptr 0 0 0 0 0,.int .i64 b] (rnH p inp r h T) N
  (fun v H nx=>v=.tup []∧H=rnH p inp { r with b:=b,a:=0 } { h with tr:=h.tr++[p.gs[g].blocks[k].addr],gt:=h.gt+1 } T∧nx=N):=by
 refine zbc (fn_x zlK rfl ?_);unfold zgb rnH rnC;have hB:=hBig;have hg1:(p.gs.map G.cells).getD g []=[.int .u32 p.gs[g].addr,encL 2 Bl.cells p.gs[g].blocks]:=zq (f:=G.cells) (d:=[]) hg;have hg2:(p.gs[g].blocks.map Bl.cells).getD k []=[.int .u32 p.gs[g].blocks[k].addr,encL 8 St.cells p.gs[g].blocks[k].stmts]:=zq (f:=Bl.cells) (d:=[]) hk;have h4:=hT.four;have n0:(0 == N)=false:=beq_false_of_ne (by omega);have n1:(1 == N)=false:=beq_false_of_ne (by omega);have n2:(2 == N)=false:=beq_false_of_ne (by omega);have n3:(3 == N)=false:=beq_false_of_ne (by omega)
 have tN:T.look N=none:=by
  cases hl:T.look N with
  | none=>rfl
  | some o=>exact absurd (hT.num _ _ hl).2 (by omega)
 subst hb;rw[hrg];have ktr:(h.tr.map cU).take h.tr.length=h.tr.map cU:=WA (by simp)
 (refine Qa ?_;intros)
 refine zoR zdN ziA zhV zcX [(11,.ptr 0 0 0 0 0),(12,.ptr 0 0 0 0 0),(13,.ptr 0 0 0 0 0),(14,.ptr 0 0 0 0 13),(15,.own 1 0 h.gt 0 h.tr.length),(16,.ptr 0 0 0 0 0),(17,.ptr 0 0 0 0 0),(18,.ptr 0 0 0 0 0),(19,.ptr 0 0 0 0 0),(20,encL 2 G.cells p.gs),(21,.ptr 0 0 0 0 0),(22,.ptr 0 0 0 0 0),(23,.ptr 0 0 0 0 9),(24,.int .i64 g),(25,.iptr 2 fun j=>[AV.int .u32 p.gs[g].addr,encL 2 Bl.cells p.gs[g].blocks].getD j .undef),(26,.iptr 1 fun j=>[AV.int .u32 p.gs[g].addr,encL 2 Bl.cells p.gs[g].blocks].getD (1+j) .undef),(27,encL 2 Bl.cells p.gs[g].blocks),(28,.int .i64 k),(29,.iptr 2 fun j=>[AV.int .u32 p.gs[g].blocks[k].addr,encL 8 St.cells p.gs[g].blocks[k].stmts].getD j .undef),(30,.iptr 1 fun j=>[AV.int .u32 p.gs[g].blocks[k].addr,encL 8 St.cells p.gs[g].blocks[k].stmts].getD (0+j) .undef),(31,.int .u32 p.gs[g].blocks[k].addr),(32,.own N 0 0 0 1),(33,.own 1 0 (h.gt+1) 0 (h.tr.length+1)),(34,.ptr 0 0 0 0 0),(35,.ptr 0 0 0 0 13)] (hsOf [((0,.row 18 [[encL 2 G.cells p.gs,encL 5 Sct.cells p.secs,.int .u32 p.entry,encL 1 cU r.vs,.bool true,encL 5 Sct.cells r.m.l,encL 2 celV r.m.c,encL 1 cU inp,.int .i64 r.tk,.int .i64 g,.int .i64 k,.int .i64 0,.own 3 0 h.gc 0 r.fr.length,.own 1 0 h.gt 0 h.tr.length,.int .i64 r.err,.own 2 0 h.go 0 r.out.length,.int .i64 r.st,.bool r.ov]] 0)::(1,.row 1 (h.tr.map cU) h.gt)::(2,.row 1 (r.out.map cU) h.go)::(3,.row 4 (r.fr.map Fr.cells++h.stale) h.gc)::T,N),((0,.row 18 [[encL 2 G.cells p.gs,encL 5 Sct.cells p.secs,.int .u32 p.entry,encL 1 cU r.vs,.bool true,encL 5 Sct.cells r.m.l,encL 2 celV r.m.c,encL 1 cU inp,.int .i64 r.tk,.int .i64 g,.int .i64 k,.int .i64 0,.own 3 0 h.gc 0 r.fr.length,.own 1 0 h.gt 0 h.tr.length,.int .i64 r.err,.own 2 0 h.go 0 r.out.length,.int .i64 r.st,.bool r.ov]] 0)::(1,.row 1 (h.tr.map cU) h.gt)::(2,.row 1 (r.out.map cU) h.go)::(3,.row 4 (r.fr.map Fr.cells++h.stale) h.gc)::T.put N (.row 1 [[.int .u32 p.gs[g].blocks[k].addr]] 0),N+1),((0,.row 18 [[encL 2 G.cells p.gs,encL 5 Sct.cells p.secs,.int .u32 p.entry,encL 1 cU r.vs,.bool true,encL 5 Sct.cells r.m.l,encL 2 celV r.m.c,encL 1 cU inp,.int .i64 r.tk,.int .i64 g,.int .i64 k,.int .i64 0,.own 3 0 h.gc 0 r.fr.length,.own 1 0 h.gt 0 h.tr.length,.int .i64 r.err,.own 2 0 h.go 0 r.out.length,.int .i64 r.st,.bool r.ov]] 0)::(1,.row 1 (h.tr.map cU++[[.int .u32 p.gs[g].blocks[k].addr]]) (h.gt+1))::(2,.row 1 (r.out.map cU) h.go)::(3,.row 4 (r.fr.map Fr.cells++h.stale) h.gc)::T.put N (.row 1 [[.int .u32 p.gs[g].blocks[k].addr]] 0),N+1),((0,.row 18 [[encL 2 G.cells p.gs,encL 5 Sct.cells p.secs,.int .u32 p.entry,encL 1 cU r.vs,.bool true,encL 5 Sct.cells r.m.l,encL 2 celV r.m.c,encL 1 cU inp,.int .i64 r.tk,.int .i64 g,.int .i64 k,.int .i64 0,.own 3 0 h.gc 0 r.fr.length,.own 1 0 (h.gt+1) 0 (h.tr.length+1),.int .i64 r.err,.own 2 0 h.go 0 r.out.length,.int .i64 r.st,.bool r.ov]] 0)::(1,.row 1 (h.tr.map cU++[[.int .u32 p.gs[g].blocks[k].addr]]) (h.gt+1))::(2,.row 1 (r.out.map cU) h.go)::(3,.row 4 (r.fr.map Fr.cells++h.stale) h.gc)::T.put N (.row 1 [[.int .u32 p.gs[g].blocks[k].addr]] 0),N+1)]) (by kernel_rfl) (by rfl) (by rfl) (by repeat' first|exact QExt.retK|apply QExt.seq|apply QExt.block|apply QExt.loop|apply QExt.join|assumption) ?plan [] (by rfl) ?fin
 case' plan =>
  intro Kf hs hK hH
  have kf11:Kf.get 11=.ptr 0 0 0 0 0:=by rw[hK,zc];rfl
  have kf12:Kf.get 12=.ptr 0 0 0 0 0:=by rw[hK,zc];rfl
  have kf13:Kf.get 13=.ptr 0 0 0 0 0:=by rw[hK,zc];rfl
  have kf14:Kf.get 14=.ptr 0 0 0 0 13:=by rw[hK,zc];rfl
  have kf15:Kf.get 15=.own 1 0 h.gt 0 h.tr.length:=by rw[hK,zc];rfl
  have kf16:Kf.get 16=.ptr 0 0 0 0 0:=by rw[hK,zc];rfl
  have kf17:Kf.get 17=.ptr 0 0 0 0 0:=by rw[hK,zc];rfl
  have kf18:Kf.get 18=.ptr 0 0 0 0 0:=by rw[hK,zc];rfl
  have kf19:Kf.get 19=.ptr 0 0 0 0 0:=by rw[hK,zc];rfl
  have kf20:Kf.get 20=encL 2 G.cells p.gs:=by rw[hK,zc];rfl
  have kf21:Kf.get 21=.ptr 0 0 0 0 0:=by rw[hK,zc];rfl
  have kf22:Kf.get 22=.ptr 0 0 0 0 0:=by rw[hK,zc];rfl
  have kf23:Kf.get 23=.ptr 0 0 0 0 9:=by rw[hK,zc];rfl
  have kf24:Kf.get 24=.int .i64 g:=by rw[hK,zc];rfl
  have kf25:Kf.get 25=.iptr 2 fun j=>[AV.int .u32 p.gs[g].addr,encL 2 Bl.cells p.gs[g].blocks].getD j .undef:=by rw[hK,zc];rfl
  have kf26:Kf.get 26=.iptr 1 fun j=>[AV.int .u32 p.gs[g].addr,encL 2 Bl.cells p.gs[g].blocks].getD (1+j) .undef:=by rw[hK,zc];rfl
  have kf27:Kf.get 27=encL 2 Bl.cells p.gs[g].blocks:=by rw[hK,zc];rfl
  have kf28:Kf.get 28=.int .i64 k:=by rw[hK,zc];rfl
  have kf29:Kf.get 29=.iptr 2 fun j=>[AV.int .u32 p.gs[g].blocks[k].addr,encL 8 St.cells p.gs[g].blocks[k].stmts].getD j .undef:=by rw[hK,zc];rfl
  have kf30:Kf.get 30=.iptr 1 fun j=>[AV.int .u32 p.gs[g].blocks[k].addr,encL 8 St.cells p.gs[g].blocks[k].stmts].getD (0+j) .undef:=by rw[hK,zc];rfl
  have kf31:Kf.get 31=.int .u32 p.gs[g].blocks[k].addr:=by rw[hK,zc];rfl
  have kf32:Kf.get 32=.own N 0 0 0 1:=by rw[hK,zc];rfl
  have kf33:Kf.get 33=.own 1 0 (h.gt+1) 0 (h.tr.length+1):=by rw[hK,zc];rfl
  have kf34:Kf.get 34=.ptr 0 0 0 0 0:=by rw[hK,zc];rfl
  have kf35:Kf.get 35=.ptr 0 0 0 0 13:=by rw[hK,zc];rfl
  have kf0:Kf.get 0=.ptr 0 0 0 0 0:=by rw[hK,zc];rfl
  have kf1:Kf.get 1=.int .i64 k:=by rw[hK,zc];rfl
  simp only[zcX,zkB,zmO,and_true]
  (repeat' with_reducible apply We)
  all_goals (rw[hH];simp only[zm5,zc8,WF,WE,hsOf,hsAt,beqL,zeV,Nat.reduceBEq,Bool.and_true,Wp,Bool.and_false,Wo,cond_true,cond_false,Wu,List.length_nil,Nat.reduceAdd])
  all_goals try (simp(disch:=try exact dis1) only[evD,Nat.reduceBEq,Nat.reduceAdd,Nat.reduceLeDiff,zdd,zcR,kf11,kf12,kf13,kf14,kf15,kf16,kf17,kf18,kf19,kf20,kf21,kf22,kf23,kf24,kf25,kf26,kf27,kf28,kf29,kf30,kf31,kf32,kf33,kf34,kf35,kf0,kf1,Wx,hg1,hg2,hrg,ktr,n0,n1,n2,n3,tN,zaG,zE];done)
 case' fin=>simp only[zdN,hsOf,hsAt,beqL,zeV,Nat.reduceBEq,Bool.and_true,Wp,Bool.and_false,Wo,cond_true,cond_false,Wu,List.length_nil,Nat.reduceAdd,WF,WE,zap]
 ·
  (repeat first|simp(disch:=try exact dis1) only[evD,Nat.reduceBEq,Nat.reduceAdd,Nat.reduceLeDiff,zgy]|with_reducible first|intro _|refine aJ ?_)
  refine⟨_,_,N,Ent.low (K2:=[(0,.tup [])]) (Wj _) (H2:=rnH p inp { r with b:=k,a:=0 } { h with tr:=h.tr++[p.gs[g].blocks[k].addr],gt:=h.gt+1 } T) ?_ (zyu hT hF hst) ?_,rfl,?_,rfl⟩
  · unfold rnH rnC;simp only[Wl,WL,WM,Wk,WN,hrg];exact zG (zG (zG (zG (zsO tN))))
  · exact⟨⟨rfl,rfl⟩,trivial⟩
  · unfold rnH rnC;rw[hrg]
 all_goals (repeat first|simp(disch:=try exact dis1) only[evD,Nat.reduceBEq,Nat.reduceAdd,Nat.reduceLeDiff,kf15,kf20,kf24,kf25,kf27,kf28,kf29,kf31,kf32,kf33,ktr,Wx,hg1,hg2,zdd,n0,n1,n2,n3,tN,zaG,zE]|with_reducible first|intro _|refine aJ ?_)
 all_goals first|omega|trace_state
noncomputable def zaf (m:Mem) (vs:List Int):List Ex→List Int→List Int × Int
 | [],acc=>(acc,0)
 | e::l,acc=>if (zkO m vs e).2≠0 then ([],(zkO m vs e).2) else zaf m vs l (acc++[(zkO m vs e).1])
theorem zsY (p:Pg) (inp:List Int) (r:Rn) (h:Hd) (T:AH) (N:Nat) (s:St) (hm:r.m.ok) (hT:TOk N T) (hF:FOk T r.fr) (hst:zy h.stale) (he:s.e.length≤1000):zab Tryz.prog zdB [.ptr 0 0 0 0 0,.agg s.cells] (rnH p inp r h T) N
  (fun v H nx=>v=.tup [encL 1 cU (zaf r.m r.vs s.e []).1,.int .i64 (zaf r.m r.vs s.e []).2]∧H=rnH p inp r h T∧nx=N):=by
 refine zbc (fn_x zkR rfl ?_);unfold zfF;have hB:=hBig;have h4:=hT.four;have n0:(0 == N)=false:=beq_false_of_ne (by omega);have n1:(1 == N)=false:=beq_false_of_ne (by omega);have n2:(2 == N)=false:=beq_false_of_ne (by omega);have n3:(3 == N)=false:=beq_false_of_ne (by omega);have m0:(0 == N+1)=false:=beq_false_of_ne (by omega);have m1:(1 == N+1)=false:=beq_false_of_ne (by omega);have m2:(2 == N+1)=false:=beq_false_of_ne (by omega);have m3:(3 == N+1)=false:=beq_false_of_ne (by omega)
 have tn:∀x,N≤x→T.look x=none:=fun x hx=>by
  cases hl:T.look x with
  | none=>rfl
  | some o=>exact absurd (hT.num _ _ hl).2 (by omega)
 have tN:=tn N (Wj _)
 have tM:(T.put N (.row 1 [] 0)).look (N+1)=none:=by rw[AH.look_put,if_neg (by omega)];exact tn _ (by omega)
 have hT1:TOk (N+1) (T.put N (.row 1 [] 0)):=hT.put (zX (by omega) hT.low) (by omega) h4 (by omega) (by simp);have hF1:FOk (T.put N (.row 1 [] 0)) r.fr:=hF.put (hF.ne hT (Wj _))
 have hT2:∀(acc:List Int) (g:Nat),TOk (N+2) ((T.put N (.row 1 [] 0)).put (N+1) (.row 1 (acc.map cU) g)):=fun acc g=>hT1.put (zX (by omega) hT1.low) (by omega) (by omega) (by omega) zjj
 have hF2:∀(acc:List Int) (g:Nat),FOk ((T.put N (.row 1 [] 0)).put (N+1) (.row 1 (acc.map cU) g)) r.fr:=fun acc g=>hF1.put (hF1.ne hT1 (Wj _))
 generalize hR:zaf r.m r.vs s.e []=R;obtain⟨op,var,width,next,els,tgt,e,cs⟩:=s;simp only at hR he;unfold rnH rnC
 (repeat first|simp(disch:=try exact dis1) only[evD,Nat.reduceBEq,Nat.reduceAdd,Nat.reduceLeDiff,St.cells,za,n0,n1,n2,n3,m0,m1,m2,m3,tN,tM]|with_reducible first|intro _|refine aJ ?_)
 refine zk (fun x:Nat × List Int × Nat=>([(0,.ptr 0 0 0 0 0),(3,encP 8 (St.cells ⟨op,var,width,next,els,tgt,e,cs⟩)),(6,.own (N+1) 0 x.2.2 0 x.2.1.length),(7,.int .i64 x.1)],rnH p inp r h ((T.put N (.row 1 [] 0)).put (N+1) (.row 1 (x.2.1.map cU) x.2.2)))) (N+2) (fun x=>x.1≤e.length∧x.2.1.length=x.1∧zaf r.m r.vs (e.drop x.1) x.2.1=R) (fun x=>e.length - x.1) (0,[],0) ⟨Wb _,rfl,hR⟩ (Ent.keepN (by omega) ⟨rfl,rfl,rfl,rfl,trivial⟩) ?_;rintro⟨i,acc,g⟩ ⟨hi,hlen,hgo⟩ wf;simp only at hi hlen hgo;unfold zd3
 by_cases hil:i < e.length
 ·
  have hg:(e.map encX).getD i []=encX e[i]:=zq (f:=encX) (d:=[]) hil;have hex:=zwt r.m r.vs hm e[i];rw[Wh hil,zaf] at hgo;generalize zkO r.m r.vs e[i]=A at hex hgo;simp only[stV,memV] at hex;unfold rnH rnC
  (repeat first|simp(disch:=try exact dis1) only[evD,Nat.reduceBEq,Nat.reduceAdd,Nat.reduceLeDiff,St.cells,fldP,dT,hg,zaJ,zb,zal,zba,zE,zr,tn]|with_reducible first|intro _|refine aJ ?_)
  refine zai (zd hex (flX rfl)) ?_
  by_cases hz:A.2=0
  ·
   rw[if_neg (show ¬A.2≠0 from fun h=>h hz)] at hgo;have k1:(acc.map cU).take acc.length=acc.map cU:=WA (by simp)
   (repeat first|simp(disch:=try exact dis1) only[evD,Nat.reduceBEq,Nat.reduceAdd,Nat.reduceLeDiff,dF,k1,zba,zE,zr,tn]|with_reducible first|intro _|refine aJ ?_)
   refine⟨(i+1,acc++[A.1],g+1),⟨by show i+1≤e.length;omega,by simp[hlen],hgo⟩,by show e.length - (i+1) < e.length - i;omega,?_⟩;refine Ent.low (H2:=rnH p inp r h ((T.put N (.row 1 [] 0)).put (N+1) (.row 1 ((acc++[A.1]).map cU) (g+1)))) (by omega) ?_ (zyu (hT2 _ _) (hF2 _ _) hst) ?_
   ·
    unfold rnH rnC;refine zG (zG (zG (zG fun x o=>?_)));simp only[AH.look_put,WM,Wk,WN,cU]
    by_cases x1:x=N+1
    · rw[if_pos x1,if_pos x1];exact id
    rw[if_neg x1,if_neg x1,if_neg x1]
    by_cases x2:x=N+2
    · rw[if_neg (by omega),tn x (by omega)];intro h;cases h
    · rw[if_neg x2];exact id
   · exact⟨⟨rfl,rfl⟩,⟨rfl,rfl⟩,⟨by rw[Wl];rfl,by simp[AV.lt1,AV.lt0,Wf]⟩,⟨rfl,rfl⟩,trivial⟩
  ·
   rw[if_pos hz] at hgo;subst hgo
   (repeat first|simp(disch:=try exact dis1) only[evD,Nat.reduceBEq,Nat.reduceAdd,Nat.reduceLeDiff,dT,zcZ,zba,zE,zr,tn]|with_reducible first|intro _|refine aJ ?_)
   refine⟨_,_,N,Ent.lowF (K2:=[(0,.tup [encL 1 cU [],.int .i64 A.2])]) (Wj _) (H2:=rnH p inp r h T) ?_ (zyu hT hF hst) ⟨zjS (vw_U (l:=[]) (W3 N 2) ?_ (by decide)),trivial⟩,rfl,rfl,rfl⟩
   · unfold rnH rnC;exact zG (zG (zG (zG fun x o hx=>by rw[AH.look_put,AH.look_put,AH.look_put,if_neg,if_neg,if_neg,hx]<;>(have:=(hT.num _ _ hx).2;omega))))
   · exact zmv (by omega) zE
 ·
  rw[Wi (by omega),zaf] at hgo;subst hgo
  (repeat first|simp(disch:=try exact dis1) only[evD,Nat.reduceBEq,Nat.reduceAdd,Nat.reduceLeDiff,St.cells,fldP,dF]|with_reducible first|intro _|refine aJ ?_)
  unfold zdV
  (repeat first|simp(disch:=try exact dis1) only[evD,Nat.reduceBEq,Nat.reduceAdd,Nat.reduceLeDiff,zcZ]|with_reducible first|intro _|refine aJ ?_)
  refine⟨_,_,N,Ent.lowF (K2:=[(0,.tup [encL 1 cU acc,.int .i64 0])]) (Wj _) (H2:=rnH p inp r h T) ?_ (zyu hT hF hst) ⟨zjS (vw_U (W3 N 1) ?_ (by omega)),trivial⟩,rfl,rfl,rfl⟩
  · unfold rnH rnC;exact zG (zG (zG (zG fun x o hx=>by rw[AH.look_put,AH.look_put,if_neg,if_neg,hx]<;>(have:=(hT.num _ _ hx).2;omega))))
  · exact zmv (by omega) zE
def Pg.cells (p:Pg):List AV:=[encL 2 G.cells p.gs,encL 5 Sct.cells p.secs,.int .u32 p.entry]
def za6 (a:Int):List G→Int→Int
 | [],_ => -1
 | g::l,i=>if g.addr=a then i else za6 a l (i+1)
theorem zyY {l:List G} {i:Nat} {j a:Int} (h:i < l.length):za6 a (l.drop i) j=if l[i].addr=a then j else za6 a (l.drop (i+1)) (j+1):=by rw[Wh h,za6]
theorem zh1 (a:Int):∀(l:List G) (i:Int),za6 a l i = -1∨∃k:Nat,∃hk:k < l.length,za6 a l i=i+k∧l[k].addr=a
 | [],_=>Wm rfl
 |
  s::l,i=>by
  unfold za6
  by_cases h:s.addr=a
  · rw[if_pos h];exact Wc ⟨0,WT _,by omega,h⟩
  ·
   rw[if_neg h]
   rcases zh1 a l (i+1) with h1 | ⟨k,hk,h1,h2⟩
   · exact Wm h1
   · exact Wc ⟨k+1,WU hk,by omega,h2⟩
theorem zlw (p:Pg) (a:Int) (hn:p.gs.length≤100000):zu Tryz.prog zfY [.agg p.cells,.int .u32 a] (·=.int .i64 (za6 a p.gs 0)):=by
 refine fn_x zvT rfl ?_;unfold zpP;have hB:=hBig;generalize hR:za6 a p.gs 0=R;obtain⟨l,secs,entry⟩:=p;simp only at hR hn;simp only[Pg.cells]
 (refine Qa ?_;intros)
 refine zk (fun i:Nat=>([(1,.int .u32 a),(2,encP 3 [encL 2 G.cells l,encL 5 Sct.cells secs,.int .u32 entry]),(5,.int .i64 i)],[])) 0 (fun i=>i≤l.length∧za6 a (l.drop i) i=R) (fun i=>l.length - i) 0 ⟨Wb _,hR⟩ (Ent.keep rfl fin5) ?_;rintro i ⟨hi,hgo⟩ wf;unfold zkZ
 by_cases hil:i < l.length
 ·
  have hg:(l.map G.cells).getD i []=[.int .u32 l[i].addr,encL 2 Bl.cells l[i].blocks]:=zq (f:=G.cells) (d:=[]) hil;rw[zyY hil] at hgo
  by_cases h1:l[i].addr=a
  ·
   rw[if_pos h1] at hgo
   (repeat first|simp(disch:=try exact dis1) only[evD,Nat.reduceBEq,Nat.reduceAdd,Nat.reduceLeDiff,fldP,dT,hg,zlt]|with_reducible first|intro _|refine aJ ?_)
   exact⟨_,.int _ _ _,by rw[hgo]⟩
  ·
   rw[if_neg h1] at hgo
   (repeat first|simp(disch:=try exact dis1) only[evD,Nat.reduceBEq,Nat.reduceAdd,Nat.reduceLeDiff,fldP,dT,dF,hg]|with_reducible first|intro _|refine aJ ?_)
   exact⟨i+1,⟨by omega,hgo⟩,by omega,Ent.keep rfl fin5⟩
 ·
  rw[Wi (by omega),za6] at hgo;rw[←hgo]
  (refine Qh ?_;intros)
  unfold zlb
  (repeat first|simp(disch:=try exact dis1) only[evD,Nat.reduceBEq,Nat.reduceAdd,Nat.reduceLeDiff,zlt]|with_reducible first|intro _|refine aJ ?_)
  exact⟨_,.int _ _ _,rfl⟩
def sg (s:Nat→Option Nat):Nat→Nat→Option (Nat × Nat × Nat):=fun r q=>(s r).map fun x=>(x,q,0)
theorem zcM {s:Nat→Option Nat} {r x:Nat} (h:s r=some x) (q:Nat):sg s r q=some (x,q,0):=by unfold sg;rw[h];rfl
theorem Ent.vs {B nx nx2:Nat} {K K2:Kn} {H H2:AH} (s:Nat→Option Nat) (D:Nat→Prop) (hB:B≤nx2)
  (hb:∀r,r < B→s r=some r∨(s r=none∧H2.look r=none))
  (inj:∀r1 r2 x,s r1=some x→s r2=some x→r1=r2) (apart:∀r x,s r=some x→¬D x) (idx:∀r x,s r=some x→r < nx2)
  (row:∀r o2,H2.look r=some o2→∃x sz els els2 g,s r=some x∧H.look x=some (.row sz els g)∧o2=.row sz els2 g∧RowV H H2 (sg s) (fun r _=>D r) els els2)
  (hK:zx5 H H2 (sg s) (fun r _=>D r) K2 K):Ent B K H nx K2 H2 nx2:=by
 refine Ent.viewL (sg s) (fun r _=>D r) ⟨Wb _,fun r q h=>absurd h (by omega),?_,?_,?_,?_,?_⟩ hB ?_ (zh5 hK)
 · intro r1 q1 r2 q2 r q d1 d2 h1 h2;obtain⟨x1,e1,f1⟩:=Ws.1 h1;obtain⟨x2,e2,f2⟩:=Ws.1 h2;cases f1;cases f2;exact⟨inj _ _ _ e1 e2,rfl⟩
 · intro r' q' r q d h;obtain⟨x1,e1,f1⟩:=Ws.1 h;cases f1;exact apart _ _ e1
 · intro r' q' x h;obtain⟨x1,e1,f1⟩:=Ws.1 h;exact idx _ _ e1
 · intro r o h;obtain⟨x,_,_,_,_,h1,_⟩:=row r o h;exact idx _ _ h1
 ·
  intro r q sz els2 g h;unfold AH.get at h;obtain⟨o,h1,h2⟩:=Option.bind_eq_some_iff.1 h;obtain⟨x,sz',els,els2',g',e1,e2,e3,e4⟩:=row r o h1;subst e3
  cases q with
  |
   zero =>
   simp only[AObj.part,WI,AObj.row.injEq] at h2;obtain⟨rfl,rfl,rfl⟩:=h2;refine .inl ⟨x,0,0,els,by unfold sg;rw[e1];rfl,?_,e4⟩;unfold AH.get;rw[e2];rfl
  | succ q=>simp[AObj.part] at h2
 ·
  intro r q hr
  rcases hb r hr with h | ⟨h1,h2⟩
  · exact .inl (by unfold sg;rw[h];rfl)
  · exact .inr ⟨by unfold sg;rw[h1];rfl,h2⟩
theorem zgq {n:Nat} {l:List Nat}:∀ {T:AH},zem n T→zem n (T.cutL l)
 | [],_=>trivial
 |
  (j,.row s e g0)::t,h=>by
  simp only[AH.cutL];cases memN l j
  · exact⟨h.1,zgq h.2⟩
  · exact zgq h.2
 |
  (j,.fam s ins)::t,h=>by
  simp only[AH.cutL];cases memN l j
  · exact⟨h.1,zgq h.2⟩
  · exact zgq h.2
theorem zhO (T:AH) (i x:Nat):(T.cutL [i]).look x=if x=i then none else T.look x:=by
 rw[AH.look_cutL]
 by_cases h:x=i
 · subst h;simp[memN]
 · rw[if_neg h];simp[memN,zbJ (Ne.symm h),zbJ h]
theorem TOk.cut {N:Nat} {T:AH} (h:TOk N T) (i:Nat):TOk N (T.cutL [i]):=by
 refine⟨h.four,fun r o hr=>?_,zgq h.low,fun r o hr=>?_⟩
 ·
  rw[zhO] at hr;split at hr
  · cases hr
  · exact h.num _ _ hr
 ·
  rw[zhO] at hr;split at hr
  · cases hr
  · exact h.flt _ _ hr
theorem zAN {p:Pg} {inp:List Int} {r:Rn} {h:Hd} {T:AH} {N:Nat} (h4:4≤N) (hT:zem N T) (hF:∀f∈r.fr,f.id < N) (hs:zkY N h.stale):zem N (rnH p inp r h T):=by
 refine⟨⟨by omega,?_⟩,⟨by omega,zbV zjj⟩,⟨by omega,zbV zjj⟩,⟨by omega,?_⟩,hT⟩
 ·
  intro c hc;rw[WP.1 hc]
  have e1:Wn 1 N=true:=by rw[Wf];omega
  have e2:Wn 2 N=true:=by rw[Wf];omega
  have e3:Wn 3 N=true:=by rw[Wf];omega
  simp only[rnC,Wq,WB,AV.lt0,encL,e1,e2,e3,WC]
 ·
  intro c hc
  rcases WQ.1 hc with hc|hc
  ·
   obtain⟨f,hf,rfl⟩:=WO.1 hc
   have e:Wn f.id N=true:=by rw[Wf];exact hF f hf
   simp only[Fr.cells,Wq,WB,AV.lt0,e,WC]
  · exact hs c hc
theorem zkG {f:Fr} {N:Nat} (h:f.id < N) {l:List (List AV)} (hl:zkY N l):zkY N (Fr.cells f::l):=by
 have e:Wn f.id N=true:=by rw[Wf];exact h
 rw[zyL];exact⟨by simp only[Fr.cells,Wq,WB,AV.lt0,e,WC],hl⟩
section
variable {H H2:AH} {σ:Nat→Nat→Option (Nat × Nat × Nat)} {D:Nat→Nat→Prop}
theorem zgI {t:Bool}:∀ {l m:List AV},VwL H H2 σ D t l m→m.length=l.length∧∀(j:Nat) (a b:AV),l[j]? = some a→m[j]? = some b→Vw H H2 σ D t a b
 | [],[],_=>⟨rfl,fun j a b h=>by simp at h⟩
 | [],_::_,h=>h.elim
 | _::_,[],h=>h.elim
 |
  x::l,y::m,h=>by
  obtain⟨h1,h2⟩:=zgI h.2;refine⟨by simp[h1],fun j a b ha hb=>?_⟩
  cases j with
  | zero=>cases ha;cases hb;exact h.1
  | succ j=>exact h2 j a b ha hb
theorem zgm {c c2:List AV} {l m:List (List AV)} (h:VwL H H2 σ D true c c2) (h2:RowV H H2 σ D l m):RowV H H2 σ D (c::l) (c2::m):=by
 obtain⟨h1,h3⟩:=zgI h;refine⟨by simp[h2.1],fun i d hd=>?_⟩
 cases i with
 | zero=>cases hd;exact⟨c,rfl,h1,h3⟩
 | succ i=>exact h2.2 i d hd
theorem zin:RowV H H2 σ D [] []:=⟨rfl,fun i c h=>by simp at h⟩
theorem zoO {st st2:List (List AV)} (hs:RowV H H2 σ D st st2):∀ {fs fs2:List Fr},fs.length=fs2.length→(∀(i:Nat) (f f2:Fr),fs[i]? = some f→fs2[i]? = some f2→σ f2.id 0=some (f.id,0,0)∧f2={ f with id:=f2.id })→RowV H H2 σ D (fs.map Fr.cells++st) (fs2.map Fr.cells++st2)
 | [],[],_,_=>hs
 | [],_::_,h,_=>by cases h
 | _::_,[],h,_=>by cases h
 |
  f::fs,f2::fs2,hl,h=>by
  obtain⟨h1,h2⟩:=h 0 f f2 rfl rfl;refine zgm ?_ (zoO hs (by simpa using hl) fun i a b ha hb=>h (i+1) a b ha hb);rw[h2];exact⟨.int _ _ _,.int _ _ _,.int _ _ _,.own _ _ _ _ _ _ _ _ _ h1 rfl,trivial⟩
end
theorem zGT {p:Pg} {inp:List Int} {r2:Rn} {h2:Hd} {H T2:AH} {s:Nat→Option Nat} {D:Nat→Prop} {c0:List AV} {e3:List (List AV)} (s0:s 0=some 0) (s1:s 1=some 1) (s2:s 2=some 2) (s3:s 3=some 3)
  (l0:H.look 0=some (.row 18 [c0] 0)) (l1:H.look 1=some (.row 1 (h2.tr.map cU) h2.gt)) (l2:H.look 2=some (.row 1 (r2.out.map cU) h2.go)) (l3:H.look 3=some (.row 4 e3 h2.gc))
  (v0:VwL H (rnH p inp r2 h2 T2) (sg s) (fun r _=>D r) true c0 (rnC p inp r2 h2)) (v3:RowV H (rnH p inp r2 h2 T2) (sg s) (fun r _=>D r) e3 (r2.fr.map Fr.cells++h2.stale))
  (hT:∀r o,T2.look r=some o→∃x sz els g,s r=some x∧H.look x=some (.row sz els g)∧o=.row sz els g∧zy els) :
  ∀r o2,(rnH p inp r2 h2 T2).look r=some o2→∃x sz els els2 g,s r=some x∧H.look x=some (.row sz els g)∧o2=.row sz els2 g∧RowV H (rnH p inp r2 h2 T2) (sg s) (fun r _=>D r) els els2:=by
 intro r o2 ho
 match r with
 | 0=>cases ho;exact⟨0,_,_,_,_,s0,l0,rfl,zgm v0 zin⟩
 | 1=>cases ho;exact⟨1,_,_,_,_,s1,l1,rfl,.of_flat zjj⟩
 | 2=>cases ho;exact⟨2,_,_,_,_,s2,l2,rfl,.of_flat zjj⟩
 | 3=>cases ho;exact⟨3,_,_,_,_,s3,l3,rfl,v3⟩
 |
  r+4 =>
  unfold rnH at ho;rw[zcz (by omega)] at ho;obtain⟨x,sz,els,g,h1,h2,h3,h4⟩:=hT _ _ ho;exact⟨x,sz,els,els,g,h1,h2,h3,.of_flat h4⟩
theorem zar {T:AH} {r:Nat} {a b:AObj}:(T.put r a).put r b=T.put r b:=by
 induction T with
 | nil=>simp[AH.put]
 |
  cons p t ih =>
  obtain⟨j,u⟩:=p;simp only[AH.put]
  cases hb:Nat.beq j r with
  | true=>simp[AH.put]
  | false=>simp only[cond_false,AH.put,hb,ih]
def zkP (p:Pg) (inp:List Int) (h:Hd) (T:AH) (fr:List Fr) (N:Nat) (R:Rn) (v:AV) (H:AH) (nx:Nat):Prop:=v=.tup []∧N≤nx∧∃h2 T2,H=rnH p inp R h2 T2∧TOk nx T2∧FOk T2 R.fr∧zy h2.stale∧h2.tr.length≤h.tr.length+1∧∀x,x < N→(∀f∈fr,f.id≠x)→T2.look x=T.look x
def zrc (r:Rn):Rn:=match r.fr.getLast? with
 | none=>{ r with err:=0,ov:=true }
 | some f=>{ r with fr:=r.fr.dropLast,vs:=r.vs.take 12++f.vs.drop 12,g:=f.g,b:=f.b,a:=f.a }
theorem TOk.none {T:AH} {N:Nat} (hT:TOk N T):∀x,N≤x→T.look x=none:=fun x hx=>by
 cases hl:T.look x with
 | none=>rfl
 | some o=>exact absurd (hT.num _ _ hl).2 (by omega)
def endR (r:Rn) (e:Int):Rn:={ r with err:=e,ov:=true }
def zhg (r:Rn) (b:Int):Rn:={ r with b:=b,a:=0 }
def zrm (p:Pg) (N:Nat) (r:Rn) (t:Int):Rn :=
 if za6 t p.gs 0 < 0 then endR r 17 else if 256≤r.fr.length then endR r 20 else
 zhg { r with fr:=r.fr++[⟨N,r.g,r.b,r.a,r.vs⟩],vs:=r.vs.take 12,g:=za6 t p.gs 0 } 0
noncomputable def zej (p:Pg) (inp:List Int) (N:Nat) (r:Rn) (s:St) (v:List Int):Rn :=
 if s.op=1 then { r with vs:=setR r.vs s.var (v.getD 0 0) }
 else if s.op=2 then (if (zfl r.m (v.getD 0 0) s.width (v.getD 1 0)).2≠0 then endR r (zfl r.m (v.getD 0 0) s.width (v.getD 1 0)).2 else { r with m:=(zfl r.m (v.getD 0 0) s.width (v.getD 1 0)).1 })
 else if s.op=3 then (if inp.length≤r.tk then endR r 14 else { r with vs:=setR r.vs s.var (inp.getD r.tk.toNat 0),tk:=r.tk+1 })
 else if s.op=4 then { r with out:=r.out++[v.getD 0 0] }
 else if s.op=5 then zrm p N r s.tgt
 else if s.op=6 then zhg r s.next
 else if s.op=7 then (if v.getD 0 0≠0 then zhg r s.next else zhg r s.els)
 else if s.op=8 then (if s.cases.length≤v.getD 0 0 then endR r 7 else zhg r (s.cases.getD (v.getD 0 0).toNat 0))
 else if s.op=9 then zrc r
 else if s.op=10 then endR r 0
 else r
def z7 (r:Rn):Rn:={ r with a:=r.a+1,st:=r.st+1 }
noncomputable def zhw (p:Pg) (inp:List Int) (N:Nat) (r:Rn) (s:St):Rn :=
 if s.op=4∧4096≤r.out.length then endR (z7 r) 6
 else if (zaf r.m r.vs s.e []).2≠0 then endR (z7 r) (zaf r.m r.vs s.e []).2
 else zej p inp N (z7 r) s (zaf r.m r.vs s.e []).1
def zrw (p:Pg) (g:Int):List Bl:=(p.gs.getD g.toNat ⟨0,[]⟩).blocks
def zht (p:Pg) (g b:Int):List St:=((zrw p g).getD b.toNat ⟨0,[]⟩).stmts
def zSt:St:=⟨0,0,0,0,0,0,[],[]⟩
def stAt (p:Pg) (r:Rn):St:=(zht p r.g r.b).getD r.a.toNat zSt
noncomputable def znj (p:Pg) (inp:List Int) (N:Nat) (r:Rn):Rn:=zhw p inp N r (stAt p r)
def canR (r:Rn):Rn:={ r with fr:=r.fr.mapIdx fun i f=>{ f with id:=5+i } }
noncomputable def zu0 (p:Pg) (inp:List Int) (r:Rn):Rn:=canR (znj p inp 301 r)
inductive RunTo (p:Pg) (inp:List Int) (n:Int):Rn→Rn→Prop
 | done {r:Rn}:r.ov=true→RunTo p inp n r r
 | out {r:Rn}:r.ov=false→n≤r.st→RunTo p inp n r (endR r 15)
 | step {r r2:Rn}:r.ov=false→r.st < n→RunTo p inp n (zu0 p inp r) r2→RunTo p inp n r r2
mutual
theorem zoZ {m:Mem} {s t:List Int}:∀e:Ex,(∀v∈occX e,zaL s v=zaL t v)→zhD m s e=zhD m t e
 |
  .mk op n v w l,h=>by
  have hl:zda m s l=zda m t l:=zn0 l fun v hv=>h v (by rw[occX];exact WR _ hv)
  rw[zhD,zhD,hl];unfold zr4
  by_cases h2:op=2
  · rw[h v (by rw[occX,if_pos h2];simp)]
  · rw[if_neg h2,if_neg h2]
theorem zn0 {m:Mem} {s t:List Int}:∀l:List Ex,(∀v∈zb0 l,zaL s v=zaL t v)→zda m s l=zda m t l
 | [],_=>by rw[zda,zda]
 |
  e::l,h=>by
  rw[zda,zda,zoZ e fun v hv=>h v (by rw[zb0];exact WH _ hv),zn0 l fun v hv=>h v (by rw[zb0];exact WR _ hv)]
end
theorem zwI {m:Mem} {s t:List Int} (e:Ex) (h:∀v∈occX e,zaL s v=zaL t v):zkO m s e=zkO m t e:=by unfold zkO;rw[zoZ e h]
theorem ziR {m:Mem} {s t:List Int}:∀(l:List Ex) (acc:List Int),(∀v∈zb0 l,zaL s v=zaL t v)→zaf m s l acc=zaf m t l acc
 | [],acc,_=>rfl
 |
  e::l,acc,h=>by
  unfold zaf;rw[zwI e fun v hv=>h v (by rw[zb0];exact WH _ hv)];split
  · rfl
  · exact ziR l _ fun v hv=>h v (by rw[zb0];exact WR _ hv)
mutual
theorem zn3 {m:Mem} {s:List Int}:∀e:Ex,zjH e=false→zdr e=true→(zhD m s e).2=0
 |
  .mk op n v w l,hl,hf=>by
  rw[zjH,W4,decide_eq_false_iff_not] at hl;rw[zdr,Wr] at hf;have hs:=zmK (m:=m) (s:=s) l hl.2 hf.1
  have h0:∀i,((zda m s l).getD i (0,0)).2=0:=fun i=>by
   rw[Wa]
   cases hi:(zda m s l)[i]? with
   | none=>rfl
   | some x=>exact hs x (List.mem_of_getElem? hi)
  rw[zhD];unfold zr4;rw[h0,h0,if_neg (show ¬(0:Int)≠0 from fun h=>h rfl),if_neg (show ¬(0:Int)≠0 from fun h=>h rfl),if_neg hl.1]
  repeat' split
  all_goals rfl
theorem zmK {m:Mem} {s:List Int}:∀l:List Ex,zlW l=false→zcc l=true→∀x∈zda m s l,x.2=0
 | [],_,_,x,hx=>by rw[zda] at hx;cases hx
 |
  e::l,hl,hf,x,hx=>by
  rw[zlW,W4] at hl;rw[zcc,Wr] at hf;rw[zda] at hx
  rcases Wt.1 hx with rfl|hx
  · exact zn3 e hl.1 hf.1
  · exact zmK l hl.2 hf.2 x hx
end
theorem zyX {e:Ex} (h:zdg [e]=0):zcj e=0:=by
 unfold zdg at h;split at h
 · assumption
 · exact Classical.byContradiction fun hc=>by simp_all
theorem zz8 {m:Mem} {vs:List Int} {s:St} {a:List Int} (hr:remS s a=true) (hc:s.check=0):(zaf m vs s.e []).2=0∧s.op=1∧s.var∉a:=by
 have hv:=zw8 hr;refine⟨?_,hv⟩;unfold remS at hr;simp only[Wr,decide_eq_true_eq,Bool.not_eq_true',decide_eq_false_iff_not] at hr;unfold St.check zjD at hc;rw[hv.1] at hc;split at hc
 · cases hc
 ·
  rename_i h1;have he:zR 1=1:=rfl;rw[he] at h1
  have hlen:s.e.length=1:=by omega
  obtain⟨x,hx⟩:=List.length_eq_one_iff.1 hlen;split at hc
  · rename_i h2;exact absurd hc h2
  ·
   rename_i h2
   have h3:zdg s.e=0:=Classical.byContradiction fun hc=>h2 hc
   rw[hx] at h3 hr ⊢;have hcx:=zyX h3
   have hlx:zjH x=false:=by
    have:=hr.2.2
    simpa using this
   have:zkO m vs x=zhD m vs x:=by unfold zkO;rw[if_neg (show ¬zcj x≠0 from fun h=>h hcx)]
   unfold zaf;rw[this,if_neg (show ¬(zhD m vs x).2≠0 from fun h=>h (zn3 x hlx (zpS hcx)))];rfl
theorem zlV {s:List Int} {v n w:Int} (hv:0≤v):zaL (setR s v n) w=if w=v then IntKind.u32.wrap n else zaL s w:=by
 have hlen:(setR s v n).length=s.length+(v.toNat+1 - s.length):=by unfold setR;simp
 unfold zaL;rw[hlen]
 by_cases hw:w=v
 ·
  subst hw;rw[if_pos rfl,if_neg (by omega)]
  congr 1
  unfold setR;rw[Wa,List.getElem?_set_self (by simp;omega)];rfl
 ·
  rw[if_neg hw]
  by_cases h0:w < 0
  · rw[if_pos (.inl h0),if_pos (.inl h0)]
  by_cases h1:(s.length:Int)≤w
  ·
   rw[if_pos (Wc h1)]
   by_cases h2:((s.length+(v.toNat+1 - s.length):Nat):Int)≤w
   · rw[if_pos (.inr h2)]
   ·
    rw[if_neg (by omega)]
    have:(setR s v n).getD w.toNat 0=0:=by
     unfold setR;rw[Wa,W5 (by omega),W6 (by omega),List.getElem?_replicate]
     split<;>rfl
    rw[this];rfl
  ·
   rw[if_neg (by omega),if_neg (by omega)]
   congr 1
   unfold setR;rw[Wa,Wa,W5 (by omega),W7 (by omega)]
theorem zhU {a b:List Int} {w:Int} (ha:12≤a.length):zaL (a.take 12++b.drop 12) w=if w < 12 then zaL a w else zaL b w:=by
 have hl:(a.take 12++b.drop 12).length=12+(b.length - 12):=by simp;omega
 unfold zaL;rw[hl]
 by_cases h0:w < 0
 · rw[if_pos (.inl h0),if_pos (by omega),if_pos (.inl h0)]
 by_cases h:w < 12
 ·
  rw[if_pos h,if_neg (by omega),if_neg (by omega)]
  congr 1
  rw[Wa,Wa,W7 (by simp;omega),List.getElem?_take,if_pos (by omega)]
 ·
  rw[if_neg h]
  by_cases h2:(b.length:Int)≤w
  · rw[if_pos (by omega),if_pos (.inr h2)]
  ·
   rw[if_neg (by omega),if_neg (by omega)]
   congr 1
   rw[Wa,Wa,W6 (by simp;omega)]
   have:(List.take 12 a).length=12:=by simp;omega
   rw[this,List.getElem?_drop]
   congr 2
   omega
theorem ziD {a:List Int} {w:Int} (ha:12≤a.length):zaL (a.take 12) w=if w < 12 then zaL a w else 0:=by
 have:=zhU (a:=a) (b:=[]) (w:=w) ha;simp only[List.drop_nil,List.append_nil] at this;rw[this];split
 · rfl
 · unfold zaL;rw[if_pos (by simp;omega)]
def AgL (L:Int→Prop) (a b:List Int):Prop:=∀v,L v→zaL a v=zaL b v
theorem AgL.mono {L L2:Int→Prop} {a b:List Int} (h:AgL L a b) (k:∀v,L2 v→L v):AgL L2 a b:=fun v hv=>h v (k v hv)
def zjB (w:Int):St:=⟨4,0,0,0,0,0,[.mk 2 0 w 0 []],[]⟩
def zjV:St:=⟨10,0,0,0,0,0,[],[]⟩
def zrl (v n:Int):St:=⟨1,v,0,0,0,0,[.mk 1 n 0 0 []],[]⟩
def zk4 (a:Int):St:=⟨5,0,0,0,0,a,[],[]⟩
def lowG (exit:List Int):List Int:=exit.filter fun w=>decide (0≤w∧w < 12)
def zjo (v n ga:Int) (exit:List Int):List St:=zrl v n::zk4 ga::((lowG exit).map zjB++[zjV])
def zlX (v n ga:Int) (exit:List Int):G:=⟨IntKind.u32.wrap (ga+1),[⟨IntKind.u32.wrap (ga+1),zjo v n ga exit⟩]⟩
theorem zyc {exit:List Int} {w:Int}:w∈lowG exit↔w∈exit∧0≤w∧w < 12:=by unfold lowG;rw[List.mem_filter,decide_eq_true_iff]
structure SimP (exit:List Int) (x y:List Bl) (v n n2 ga:Int):Prop where
 rel:RelD exit x y
 ok:OkG ⟨ga,y⟩
 v0:0≤v
 set:n=n2∨v∉(zbs exit x).getD 0 []
 calls:(∀w:Int,0≤w→w < 12→w∈exit)∨∀b∈y,∀s∈b.stmts,s.op≠5
section
variable (exit:List Int) (x y:List Bl)
def zk9 (b a:Nat):List Int:=zfn exit (((x.getD b ⟨0,[]⟩).stmts).drop a) (zaD exit x b)
structure AtG (b a a2:Nat):Prop where
 hb:b < y.length
 sub:SubD exit (zaD exit x b) (((x.getD b ⟨0,[]⟩).stmts).drop a2) (((y.getD b ⟨0,[]⟩).stmts).drop a)
 ne:((y.getD b ⟨0,[]⟩).stmts).drop a≠[]
structure FRel (f g:Fr):Prop where
 lf:12≤f.vs.length
 lg:12≤g.vs.length
 pos:(f.g=0∧f.b=0∧f.a=2∧g.g=0∧g.b=0∧g.a=2)∨((∀w:Int,0≤w→w < 12→w∈exit)∧∃b a a2:Nat,f.g=1∧f.b=b∧f.a=a∧g.g=1∧g.b=b∧g.a=a2∧AtG exit x y b a a2∧AgL (·∈zk9 exit x b a2) f.vs g.vs)
def zq2 (a:Nat) (v:Int):Prop:=if a=0 then True else if a=1 then v∈(zbs exit x).getD 0 [] else v∈exit∧0≤v∧v < 12
structure Base (r t:Rn):Prop where
 m:r.m=t.m
 tk:r.tk=t.tk
 out:r.out=t.out
 err:r.err=t.err
 ov:r.ov=t.ov
 st:t.st≤r.st
 lr:12≤r.vs.length
 lt:12≤t.vs.length
 fl:r.fr.length=t.fr.length
 fr:∀(i:Nat) (f g:Fr),r.fr[i]? = some f→t.fr[i]? = some g→FRel exit x y f g
def PRel (k:Nat) (r t:Rn):Prop:=(∃a:Nat,a < k∧(r.g=0∧r.b=0∧r.a=a∧t.g=0∧t.b=0∧t.a=a)∧AgL (zq2 exit x a) r.vs t.vs) ∨
 (∃b a a2:Nat,(r.g=1∧r.b=b∧r.a=a∧t.g=1∧t.b=b∧t.a=a2)∧AtG exit x y b a a2∧AgL (·∈zk9 exit x b a2) r.vs t.vs)
structure Rel (k:Nat) (r t:Rn):Prop where
 base:Base exit x y r t
 pos:r.ov=false→PRel exit x y k r t
end
section
variable {exit:List Int} {x y:List Bl} {v n n2 ga:Int} {k:Nat}
theorem Base.can {r t:Rn} (h:Base exit x y r t):Base exit x y (canR r) (canR t):=by
 refine⟨h.m,h.tk,h.out,h.err,h.ov,h.st,h.lr,h.lt,?_,fun i f g hf hg=>?_⟩
 · show (r.fr.mapIdx _).length=(t.fr.mapIdx _).length;rw[W8,W8,h.fl]
 · have hf':(r.fr.mapIdx fun i f=>{ f with id:=5+i })[i]? = some f:=hf;have hg':(t.fr.mapIdx fun i f=>{ f with id:=5+i })[i]? = some g:=hg;rw[List.getElem?_mapIdx] at hf' hg';obtain⟨f1,e1,rfl⟩:=Ws.1 hf';obtain⟨g1,e2,rfl⟩:=Ws.1 hg';have:=h.fr i f1 g1 e1 e2;exact⟨this.lf,this.lg,this.pos⟩
theorem Rel.can {r t:Rn} (h:Rel exit x y k r t):Rel exit x y k (canR r) (canR t):=⟨h.base.can,h.pos⟩
theorem Base.tick {r t:Rn} (h:Base exit x y r t):Base exit x y (z7 r) (z7 t):=⟨h.m,h.tk,h.out,h.err,h.ov,by show t.st+1≤r.st+1;have:=h.st;omega,h.lr,h.lt,h.fl,h.fr⟩
theorem Base.ended {r t:Rn} (h:Base exit x y r t) (e:Int):Rel exit x y k (endR r e) (endR t e) :=
 ⟨⟨h.m,h.tk,h.out,rfl,rfl,h.st,h.lr,h.lt,h.fl,h.fr⟩,fun h=>by cases h⟩
theorem zmF {s:List Int} {v n:Int}:s.length≤(setR s v n).length:=by unfold setR;simp
theorem Base.set {r t:Rn} (h:Base exit x y r t) (w a b:Int):Base exit x y { r with vs:=setR r.vs w a } { t with vs:=setR t.vs w b } :=
 ⟨h.m,h.tk,h.out,h.err,h.ov,h.st,WK h.lr zmF,WK h.lt zmF,h.fl,h.fr⟩
theorem zjw {α:Type} {l:List α} {a:Nat} {s:α} {r:List α} (h:l.drop a=s::r):l.drop (a+1)=r∧∀z,l.getD a z=s:=by
 have h1:a < l.length:=by
  rcases Nat.lt_or_ge a l.length with h1|h1
  · exact h1
  · rw[List.drop_eq_nil_of_le h1] at h;cases h
 rw[Wh h1] at h;cases h;exact⟨rfl,fun z=>by rw[Wa,Wd h1];rfl⟩
theorem AgL.setR {L:Int→Prop} {a b:List Int} {w c d:Int} (hw:0≤w) (h:AgL (fun v=>L v∧v≠w) a b) (hc:L w→c=d):AgL L (setR a w c) (setR b w d):=fun v hv=>by
 rw[zlV hw,zlV hw]
 by_cases e:v=w
 · subst e;rw[if_pos rfl,if_pos rfl,hc hv]
 · rw[if_neg e,if_neg e];exact h v ⟨hv,e⟩
theorem AgL.setL {L:Int→Prop} {a b:List Int} {w c:Int} (hw:0≤w) (h:AgL L a b) (hc:¬L w):AgL L (Go.Ab.setR a w c) b:=fun v hv=>by rw[zlV hw,if_neg (fun e=>hc (by rw[←e];exact hv))];exact h v hv
theorem zgB {s:St} {l:List St} {a:Nat} (h:l.drop a=[s]):zI l=zan s:=by
 have h2:l=l.take a++[s]:=by rw[←h,List.take_append_drop]
 unfold zI;rw[h2,List.getLast?_concat]
theorem zh9 {l:List St}:∀ {a:Nat} {s:St} {r:List St},endsOk l=true→l.drop a=s::r→zcg s=r.isEmpty:=by
 induction l with
 | nil=>intro a s r _ h;simp at h
 |
  cons z l ih =>
  intro a s r he h;unfold endsOk at he;rw[Wr,beq_iff_eq] at he
  cases a with
  | zero=>cases h;exact he.1
  | succ a=>exact ih he.2 h
theorem zau {s:St} (h:s.check=0):(1≤s.op∧s.op≤10)∧(0≤s.var∧s.var < 65536)∧(s.op=8→1≤s.cases.length∧s.cases.length≤64)∧zR s.op=s.e.length:=by
 unfold St.check zjD at h;split at h
 · cases h
 ·
  rename_i h1;split at h
  · rename_i h2;exact absurd h h2
  ·
   split at h
   · rename_i h3;unfold zA at h3;have h3:=of_decide_eq_true h3;refine⟨by omega,by omega,fun h8=>by have:=h3.2.2.2 h8;omega,by omega⟩
   · cases h
theorem zns {m:Mem} {vs:List Int}:∀(l:List Ex) (acc:List Int),(zaf m vs l acc).2=0→(zaf m vs l acc).1.length=acc.length+l.length
 | [],acc,_=>rfl
 |
  e::l,acc,h=>by
  unfold zaf at h ⊢;split
  · rename_i h1;rw[if_pos h1] at h;exact absurd h h1
  · rename_i h1;rw[if_neg h1] at h;rw[zns l _ h];simp;omega
theorem zDn (m:Mem) (vs:List Int) (e:Ex):R32 (zkO m vs e).1:=by
 unfold zkO;split
 · exact⟨Int.le_refl 0,by show (0:Int)≤4294967295;decide⟩
 · exact zpX _ _ _
theorem zkK {m:Mem} {vs:List Int}:∀(l:List Ex) (acc:List Int),(∀z∈acc,R32 z)→∀z∈(zaf m vs l acc).1,R32 z
 | [],acc,h=>h
 |
  e::l,acc,h=>by
  unfold zaf;split
  · intro z hz;cases hz
  ·
   refine zkK l _ fun z hz=>?_
   rcases WQ.1 hz with hz|hz
   · exact h z hz
   · rw[WP.1 hz];exact zDn _ _ _
theorem zr1 {a:Int}:∀ {l m:List G} {i:Int},l.map (·.addr)=m.map (·.addr)→za6 a l i=za6 a m i
 | [],[],_,_=>rfl
 | [],_::_,_,h=>by cases h
 | _::_,[],_,h=>by cases h
 |
  g::l,g2::m,i,h=>by
  rw[Wk,Wk] at h
  injection h with h1 h2
  unfold za6;rw[h1,zr1 h2]
theorem Base.push {r t:Rn} (h:Base exit x y r t) {f g:Fr} (hf:FRel exit x y f g) {vs ws:List Int} (hv:12≤vs.length) (hw:12≤ws.length) (a:Int):Base exit x y { r with fr:=r.fr++[f],vs:=vs,g:=a } { t with fr:=t.fr++[g],vs:=ws,g:=a }:=by
 refine⟨h.m,h.tk,h.out,h.err,h.ov,h.st,hv,hw,by simp[h.fl],fun i f2 g2 h1 h2=>?_⟩;simp only at h1 h2;rw[List.getElem?_append] at h1 h2;have hl:=h.fl;split at h1
 · rename_i hi;rw[if_pos (by omega)] at h2;exact h.fr i _ _ h1 h2
 ·
  rename_i hi;rw[if_neg (by omega)] at h2;rw[List.getElem?_singleton] at h1 h2;split at h1
  ·
   split at h2
   · cases h1;cases h2;exact hf
   · cases h2
  · cases h1
theorem Base.enter {r t:Rn} (h:Base exit x y r t) (b:Int):Base exit x y (zhg r b) (zhg t b):=⟨h.m,h.tk,h.out,h.err,h.ov,h.st,h.lr,h.lt,h.fl,h.fr⟩
theorem Base.back {r t:Rn} (h:Base exit x y r t) (hk:2 < k) (hov:r.ov=false) (hv:AgL (·∈exit) r.vs t.vs):Rel exit x y k (zrc r) (zrc t):=by
 have hl:=h.fl;have hlast:=h.fr (r.fr.length - 1);unfold zrc;rw[W9,W9,←hl]
 cases hr:r.fr[r.fr.length - 1]? with
 |
  none =>
  have h0:r.fr.length=0:=by
   rcases Nat.eq_zero_or_pos r.fr.length with h0|h0
   · exact h0
   · rw[Wd (by omega)] at hr;cases hr
  have:t.fr[r.fr.length - 1]? = none:=List.getElem?_eq_none (by omega);rw[this];exact h.ended 0
 |
  some f =>
  obtain⟨hi,_⟩:=List.getElem?_eq_some_iff.1 hr;obtain⟨g,hg⟩:∃g,t.fr[r.fr.length - 1]? = some g:=⟨_,Wd (by omega)⟩;rw[hg];have hf:=hlast f g hr hg;have hlf:=hf.lf;have hlg:=hf.lg;have hlr:=h.lr;have hlt:=h.lt;refine⟨⟨h.m,h.tk,h.out,h.err,h.ov,h.st,by simp only[Wl,Wz,Waa];omega,by simp only[Wl,Wz,Waa];omega,by simp[hl],fun i f2 g2 h1 h2=>?_⟩,fun _=>?_⟩
  ·
   simp only[List.getElem?_dropLast] at h1 h2;split at h1
   ·
    split at h2
    · exact h.fr i _ _ h1 h2
    · cases h2
   · cases h1
  ·
   rcases hf.pos with ⟨p1,p2,p3,p4,p5,p6⟩ | ⟨hall,b,a,a2,p1,p2,p3,p4,p5,p6,hat,hag⟩
   · refine .inl ⟨2,hk,⟨p1,p2,p3,p4,p5,p6⟩,fun w hw=>?_⟩;unfold zq2 at hw;rw[if_neg (by decide),if_neg (by decide)] at hw;simp only;rw[zhU hlr,zhU hlt,if_pos hw.2.2,if_pos hw.2.2];exact hv w hw.1
   ·
    refine .inr ⟨b,a,a2,⟨p1,p2,p3,p4,p5,p6⟩,hat,fun w hw=>?_⟩;simp only;rw[zhU hlr,zhU hlt];split
    ·
     rcases Int.lt_or_le w 0 with h0|h0
     · unfold zaL;rw[if_pos (.inl h0),if_pos (.inl h0)]
     · exact hv w (hall w h0 (by assumption))
    · exact hag w hw
theorem zqH (h:SimP exit x y v n n2 ga) {b:Nat} (hb:b < x.length):∀w,w∈zk9 exit x b 0↔w∈(zbs exit x).getD b []:=by intro w;have hy:=h.ok.ends;have hx:=h.rel.ends hy;rw[zzk hb,zzV (hx _ (Wg hb)).1];unfold zk9;rw[Wa,Wd hb];exact Iff.rfl
theorem zxW (h:SimP exit x y v n n2 ga) {b:Nat} (hb:b < y.length):AtG exit x y b 0 0:=by
 have hl:=h.rel.len;have h1:=(h.rel.blk b (by omega) hb).2;refine⟨hb,?_,?_⟩
 · rw[Wa,Wa,Wd hb,Wd (by omega:b < x.length)];exact h1
 · rw[Wa,Wd hb];exact(h.ok.ends _ (Wg hb)).1
theorem Base.jump (h:SimP exit x y v n n2 ga) {r t:Rn} (hb:Base exit x y r t) (hg:r.g=1) (hg2:t.g=1) {b:Nat} (hbl:b < y.length) (hv:AgL (·∈(zbs exit x).getD b []) r.vs t.vs):Rel exit x y k (zhg r b) (zhg t b) :=
 ⟨hb.enter _,fun _=>.inr ⟨b,0,0,⟨hg,rfl,rfl,hg2,rfl,rfl⟩,zxW h hbl,hv.mono fun w hw=>(zqH h (by have:=h.rel.len;omega) w).1 hw⟩⟩
structure Progs (y x:List Bl) (v n n2 ga:Int) (exit:List Int) (p q:Pg):Prop where
 p:p.gs=[zlX v n ga exit,⟨ga,y⟩]
 q:q.gs=[zlX v n2 ga exit,⟨ga,x⟩]
theorem Progs.find {p q:Pg} (h:Progs y x v n n2 ga exit p q) (a:Int):za6 a p.gs 0=za6 a q.gs 0:=by rw[h.p,h.q];exact zr1 rfl
theorem Progs.find3 {p q:Pg} (h:Progs y x v n n2 ga exit p q) (a:Int):za6 a p.gs 0 = -1∨za6 a p.gs 0=0∨za6 a p.gs 0=1:=by
 rw[h.p];unfold za6 za6 za6
 repeat' split
 all_goals omega
theorem Progs.findga {p q:Pg} (h:Progs y x v n n2 ga exit p q):za6 ga p.gs 0=1:=by
 rw[h.p];unfold za6 za6;rw[if_neg,if_pos rfl]
 · rfl
 · show ¬IntKind.u32.wrap (ga+1)=ga;have e:IntKind.u32.wrap (ga+1)=(ga+1) % 4294967296:=rfl;rw[e];omega
theorem Base.call (h:SimP exit x y v n n2 ga) {p q:Pg} (hp:Progs y x v n n2 ga exit p q) {r t:Rn} (hb:Base exit x y r t) {N:Nat} (hk:0 < k) (tg:Int) (hf:FRel exit x y ⟨N,r.g,r.b,r.a,r.vs⟩ ⟨N,t.g,t.b,t.a,t.vs⟩)
  (h0:za6 tg p.gs 0=0→∀w:Int,w < 12→zaL r.vs w=zaL t.vs w) (h1:∀w:Int,w < 12→w∈(zbs exit x).getD 0 []→zaL r.vs w=zaL t.vs w):Rel exit x y k (zrm p N r tg) (zrm q N t tg):=by
 unfold zrm;rw[←hp.find,←hb.fl];split
 · exact hb.ended _
 split
 · exact hb.ended _
 have l1:=hb.lr;have l2:=hb.lt;have hpush:=(hb.push hf (vs:=r.vs.take 12) (ws:=t.vs.take 12) (by rw[Wz];omega) (by rw[Wz];omega) (za6 tg p.gs 0)).enter 0;refine⟨hpush,fun _=>?_⟩
 rcases hp.find3 tg with h3|h3|h3
 · omega
 ·
  refine .inl ⟨0,hk,⟨h3,rfl,rfl,h3,rfl,rfl⟩,fun w _=>?_⟩;show zaL (r.vs.take 12) w=zaL (t.vs.take 12) w;rw[ziD l1,ziD l2];split
  · exact h0 h3 w (by assumption)
  · rfl
 ·
  have hy:0 < y.length:=List.length_pos_iff.2 h.ok.ne;refine .inr ⟨0,0,0,⟨h3,rfl,rfl,h3,rfl,rfl⟩,zxW h hy,fun w hw=>?_⟩;show zaL (r.vs.take 12) w=zaL (t.vs.take 12) w;rw[ziD l1,ziD l2];split
  · exact h1 w (by assumption) ((zqH h (by have:=h.rel.len;omega) w).1 hw)
  · rfl
end
end Go.Ab
