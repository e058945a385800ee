/-
  Part 12 of the proof: how the calls of this program run, over values instead of memory, and what each function computes.
-/
import Derived.KernelRfl
import Derived.Test.YtjcbhpmmngfmeaaGreatKk
set_option maxRecDepth 100000
set_option linter.unusedVariables false
set_option linter.unusedSimpArgs false
set_option linter.unnecessarySimpa false
set_option linter.unusedSectionVars false
open Nat renaming le_refl→Wa,zero_le→Wg,le_trans→Wl,lt_of_lt_of_le→WW
open List renaming mem_singleton→Wc,length_append→Wd,length_singleton→We,getD→Wh,getElem_mem→Wi,all_cons→Wj,all_nil→Wk,getElem?_modify→Wm,take_succ_cons→Wp,mem_cons→Wq,length_cons→Ws,length_nil→Wt,ext_getElem?→Wv,mem_map→Ww,drop_of_length_le→Wy,getElem?_eq_getElem→WA,getElem?_mapIdx→WB,getElem_append_left→WC,getElem_cons_zero→WD,mem_append→WE,take_of_length_le→WF,drop_eq_getElem_cons→WG,getLast?_eq_getElem?→WJ,getElem?_eq_some_iff→WK,mem_mapIdx→WL,length_pos_iff→WM,getElem?_set→WN,getElem?_append→WO,take_zero→WP,getElem_cons_succ→WQ,take_succ_eq_append_getElem→WS,take_length→WV,mapIdx_append→WX,getElem_append_right→WY,getElem?_append_left→WZ,mem_of_getLast?→W0,length_mapIdx→W3,getElem?_eq_none→W5,getElem_modify→W6
open Option renaming map_some→Wf,map_eq_map→Wx,bind_some→WR
open Bool renaming or_false→Wn,and_self→Wu,true_and→Wz,false_and→WH
open And renaming intro→Wo
open Int renaming toNat_natCast→Wr,toNat_of_nonneg→WU
open Option.some renaming injEq→WI
namespace Go.Ab
open Go.RowKit Go.Proofs
theorem QY {p q:Prop}(k:q)(h:Im q p:=by(repeat first|simp(disch:=try exact dis1) only[evD,Nat.reduceBEq,Nat.reduceAdd,Nat.reduceLeDiff,dT,dF,zdw] | ((with_reducible apply Im.i);intro _) | ((with_reducible apply Im.a);omega));exact Im.r):p:=h k
theorem QZ {p q:Prop}(k:q)(h:Im q p:=by(repeat first|simp(disch:=try exact dis1) only[evD,Nat.reduceBEq,Nat.reduceAdd,Nat.reduceLeDiff,fldP,dT,dF] | ((with_reducible apply Im.i);intro _) | ((with_reducible apply Im.a);omega));exact Im.r):p:=h k
theorem Qaa {p q:Prop}(k:q)(h:Im q p:=by(repeat first|simp(disch:=try exact dis1) only[evD,Nat.reduceBEq,Nat.reduceAdd,Nat.reduceLeDiff,zdw] | ((with_reducible apply Im.i);intro _) | ((with_reducible apply Im.a);omega));exact Im.r):p:=h k
theorem zqI:∀(k:Nat) (e:Ex) (m n:Int),zgI e≤k → -1000≤m→m≤1000 → -1≤n→n≤100000→zl Tryz.prog zh8 [.agg (encX e),.int .i64 m,.int .i64 n] (·=.int .i64 (zhJ e m n)):=by
 intro k
 induction k with
 | zero=>intro e m n h;obtain⟨_,_,_,_,l⟩:=e;rw[zgI] at h;omega
 | succ k ih =>
 intro e m n hk h1 h2 h3 h4;obtain⟨op,nn,v,w,l⟩:=e;refine fn_x zr9 rfl ?_;unfold zmE;have hB:=hBig;rw[zgI] at hk;have hR:=zgP (.mk op nn v w l) m n h3;rw[zhJ] at hR ⊢;generalize hE:encX (.mk op nn v w l)=E;rw[zhn] at hE;subst hE
 by_cases c1:m < 1
 ·
  rw[if_pos (.inl c1)]
  (repeat first|simp(disch:=try exact dis1) only[evD,Nat.reduceBEq,Nat.reduceAdd,Nat.reduceLeDiff,dT,zdw]|with_reducible first|intro _|refine aJ ?_)
  exact⟨_,.int _ _ _,rfl⟩
 by_cases c2:n < 1
 ·
  rw[if_pos (.inr (.inl c2))]
  (refine QY ?_;intros)
  exact⟨_,.int _ _ _,rfl⟩
 by_cases c3:4 < l.length
 ·
  rw[if_pos (.inr (.inr c3))]
  (refine QY ?_;intros)
  exact⟨_,.int _ _ _,rfl⟩
 rw[if_neg (by omega)] at hR ⊢
 (refine Qk ?_;intros)
 generalize hG:zdr l (m - 1) (n - 1)=R at hR ⊢;refine zk (fun s:Nat × Int=>([(1,.int .i64 m),(3,encP 5 [.int .i64 op,.int .u32 nn,.int .i64 v,.int .i64 w,encL 5 encX l]),(7,.int .i64 s.2),(8,.int .i64 s.1)],[])) 0 (fun s=>s.1≤l.length ∧ -1≤s.2∧s.2≤n∧zdr (l.drop s.1) (m - 1) s.2=R) (fun s=>l.length - s.1) (0,n - 1) ⟨Wg _,by simp only;omega,by simp only;omega,hG⟩ (Ent.keep rfl fin5) ?_;rintro⟨i,x⟩ ⟨hi,hx1,hx2,hgo⟩ wf;simp only at hi hx1 hx2 hgo;unfold zi1
 by_cases hl:i < l.length
 ·
  by_cases hx:0≤x
  ·
   rw[zrg hl hx] at hgo;have hm:=zhM (Wi hl);have hr:=zgP l[i] (m - 1) x hx1
   (repeat first|simp(disch:=try exact dis1) only[evD,Nat.reduceBEq,Nat.reduceAdd,Nat.reduceLeDiff,fldP,dT,dF,zm hl,zbP,zbp]|with_reducible first|intro _|refine aJ ?_)
   refine zc (zg (ih l[i] (m - 1) x (by omega) (by omega) (by omega) (by omega) (by omega)) (flX rfl)) ?_
   (refine Qa ?_;intros)
   exact⟨(i+1,zhJ l[i] (m - 1) x),⟨by simp only;omega,by simp only;omega,by simp only;omega,hgo⟩,by simp only;omega,Ent.keep rfl fin5⟩
  ·
   rw[zsV (by omega)] at hgo;subst hgo
   (refine QZ ?_;intros)
   unfold zgd
   (refine Qaa ?_;intros)
   exact⟨_,.int _ _ _,rfl⟩
 ·
  rw[Wy (by omega),zdr] at hgo;subst hgo
  (refine QZ ?_;intros)
  unfold zgd
  (refine Qaa ?_;intros)
  exact⟨_,.int _ _ _,rfl⟩
theorem zqm {l m:List Int} {i:Nat} (h:l.take i=m.take i) (hi:i < l.length) (hm:i < m.length) (he:l[i]=m[i]):l.take (i+1)=m.take (i+1):=by rw[WS hi,WS hm,h,he]
theorem Qaw {p:Prop}(h:p:=by(try simp only[evWB,Nat.reduceBEq,Nat.reduceAdd,Nat.reduceSub,Nat.reduceLeDiff,Nat.reduceLT,implies_true,za])<;>exact fin2):p:=h
theorem zn9 (A B:List Int):zl Tryz.prog zbc [za A,za B] (·=.bool (decide (A=B))):=by
 refine fn_x znp rfl ?_;unfold ziX;have hB:=hBig
 by_cases hl:A.length=B.length
 ·
  (refine Qu ?_;intros)
  refine zk (fun i:Nat=>([(0,za A),(1,za B),(5,.int .i64 i)],[])) 0 (fun i=>i≤A.length∧A.take i=B.take i) (fun i=>A.length - i) 0 ⟨Wg _,by simp⟩ (Ent.tab [] [] rfl Qaw Qaw) ?_;rintro i ⟨hi,htk⟩ wf;unfold zgR
  by_cases hil:i < A.length
  ·
   have hib:i < B.length:=by omega
   have ga:=zm (f:=cI) (d:=[]) hil;have gb:=zm (f:=cI) (d:=[]) hib
   by_cases he:A[i]=B[i]
   ·
    (repeat first|simp(disch:=try exact dis1) only[evD,Nat.reduceBEq,Nat.reduceAdd,Nat.reduceLeDiff,dT,dF,za,ga,gb]|with_reducible first|intro _|refine aJ ?_)
    exact⟨i+1,⟨by omega,zqm htk hil hib he⟩,by omega,Ent.keep rfl fin5⟩
   ·
    have hne:A≠B:=fun e=>he (by subst e;rfl)
    rw[decide_eq_false hne]
    (repeat first|simp(disch:=try exact dis1) only[evD,Nat.reduceBEq,Nat.reduceAdd,Nat.reduceLeDiff,dT,za,ga,gb,zdJ]|with_reducible first|intro _|refine aJ ?_)
    exact⟨_,.bool _ _,rfl⟩
  ·
   rw[WF (by omega),WF (by omega)] at htk;rw[decide_eq_true htk]
   (refine Qu ?_;intros)
   unfold zgM
   (repeat first|simp(disch:=try exact dis1) only[evD,Nat.reduceBEq,Nat.reduceAdd,Nat.reduceLeDiff,zdJ]|with_reducible first|intro _|refine aJ ?_)
   exact⟨_,.bool _ _,rfl⟩
 ·
  have hne:A≠B:=fun e=>hl (by rw[e])
  rw[decide_eq_false hne]
  (repeat first|simp(disch:=try exact dis1) only[evD,Nat.reduceBEq,Nat.reduceAdd,Nat.reduceLeDiff,dT,za,zdJ]|with_reducible first|intro _|refine aJ ?_)
  exact⟨_,.bool _ _,rfl⟩
def zpT (most:Int):List Ex→Int→Option Int
 | [],n=>some n
 | e::l,n=>if zhJ e most n < 0 then none else zpT most l (zhJ e most n)
def zon (most:Int):List St→Int→Option Int
 | [],n=>some n
 |
  s::l,n=>if 4 < s.e.length∨100 < s.cases.length then none else match zpT most s.e n with
  | none=>none
  | some n=>zon most l n
def zoU (most:Int):List Bl→Int→Option Int
 | [],n=>some n
 |
  b::l,n=>if 1100 < b.stmts.length then none else match zon most b.stmts n with
  | none=>none
  | some n=>zoU most l n
def zit (g:G) (most:Int):Bool:=decide (g.blocks.length≤300)&&(zoU most g.blocks 20000).isSome
theorem zva {most:Int} {l:List Ex} {i:Nat} {n:Int} (h:i < l.length):zpT most (l.drop i) n=if zhJ l[i] most n < 0 then none else zpT most (l.drop (i+1)) (zhJ l[i] most n):=by rw[WG h,zpT]
theorem zvD {most:Int} {l:List St} {i:Nat} {n:Int} (h:i < l.length):zon most (l.drop i) n=if 4 < l[i].e.length∨100 < l[i].cases.length then none else match zpT most l[i].e n with
  | none=>none
  | some n=>zon most (l.drop (i+1)) n:=by
 rw[WG h,zon]
theorem zvI {most:Int} {l:List Bl} {i:Nat} {n:Int} (h:i < l.length):zoU most (l.drop i) n=if 1100 < l[i].stmts.length then none else match zon most l[i].stmts n with
  | none=>none
  | some n=>zoU most (l.drop (i+1)) n:=by
 rw[WG h,zoU]
theorem zq2 {most:Int}:∀ {l:List St} {n m:Int},zon most l n=some m→∀s∈l,s.cases.length≤100
 | [],n,m,_,s,hs=>by cases hs
 |
  a::l,n,m,h,s,hs=>by
  rw[zon] at h;split at h
  · cases h
  ·
   rename_i h1;split at h
   · cases h
   ·
    rcases Wq.1 hs with rfl|hs
    · omega
    · exact zq2 h s hs
theorem zr0 {most:Int}:∀ {l:List Bl} {n m:Int},zoU most l n=some m→∀b∈l,b.stmts.length≤1100∧∀s∈b.stmts,s.cases.length≤100
 | [],n,m,_,b,hb=>by cases hb
 |
  a::l,n,m,h,b,hb=>by
  rw[zoU] at h;split at h
  · cases h
  ·
   rename_i h1;split at h
   · cases h
   ·
    rename_i h2
    rcases Wq.1 hb with rfl|hb
    · exact⟨by omega,zq2 h2⟩
    · exact zr0 h b hb
theorem zpc {g:G} {most:Int} (h:zit g most=true):midG g:=by unfold zit at h;rw[Bool.and_eq_true,decide_eq_true_eq,Option.isSome_iff_exists] at h;obtain⟨h1,m,h2⟩:=h;exact⟨h1,zr0 h2⟩
theorem zmd (g:G) (most:Int) (hm1' : -1000≤most) (hm2:most≤1000):zl Tryz.prog zfe [.agg g.cells,.int .i64 most] (·=.bool (zit g most)):=by
 refine fn_x zlV rfl ?_;unfold zhw;have hB:=hBig;obtain⟨ad,l⟩:=g;simp only[G.cells,zit]
 by_cases h300:300 < l.length
 ·
  rw[decide_eq_false (by omega),WH]
  (repeat first|simp(disch:=try exact dis1) only[evD,Nat.reduceBEq,Nat.reduceAdd,Nat.reduceLeDiff,fldP,dT,zaV]|with_reducible first|intro _|refine aJ ?_)
  exact⟨_,.bool _ _,rfl⟩
 rw[decide_eq_true (by omega),Wz];generalize hR:zoU most l 20000=R
 (refine Qi ?_;intros)
 refine zk (fun s:Nat × Int=>([(1,.int .i64 most),(2,encP 2 [.int .u32 ad,encL 2 Bl.cells l]),(5,.int .i64 s.2),(6,.int .i64 s.1)],[])) 0 (fun s=>s.1≤l.length∧0≤s.2∧s.2≤20000∧zoU most (l.drop s.1) s.2=R) (fun s=>l.length - s.1) (0,20000) ⟨Wg _,by simp,by simp,hR⟩ (Ent.keep rfl fin5) ?_;rintro⟨i,n⟩ ⟨hi,hn0,hn1,hgo⟩ wf;simp only at hi hn0 hn1 hgo;unfold zfk
 by_cases hl:i < l.length
 case neg =>
  rw[Wy (by omega),zoU] at hgo;subst hgo
  (refine Qi ?_;intros)
  unfold zfo
  (repeat first|simp(disch:=try exact dis1) only[evD,Nat.reduceBEq,Nat.reduceAdd,Nat.reduceLeDiff,zaV]|with_reducible first|intro _|refine aJ ?_)
  exact⟨_,.bool _ _,rfl⟩
 rw[zvI hl] at hgo;have hg:=zm (f:=Bl.cells) (d:=[]) hl;generalize l[i]=bb at hgo hg;obtain⟨bad,bst⟩:=bb;simp only[Bl.cells] at hgo hg
 by_cases h1100:1100 < bst.length
 ·
  rw[if_pos h1100] at hgo;subst hgo
  (repeat first|simp(disch:=try exact dis1) only[evD,Nat.reduceBEq,Nat.reduceAdd,Nat.reduceLeDiff,fldP,dT,hg,zaV]|with_reducible first|intro _|refine aJ ?_)
  exact⟨_,.bool _ _,rfl⟩
 rw[if_neg h1100] at hgo
 (repeat first|simp(disch:=try exact dis1) only[evD,Nat.reduceBEq,Nat.reduceAdd,Nat.reduceLeDiff,fldP,dT,dF,hg]|with_reducible first|intro _|refine aJ ?_)
 generalize hRS:zon most bst n=RS at hgo;refine zk (fun s:Nat × Int=>([(1,.int .i64 most),(2,encP 2 [.int .u32 ad,encL 2 Bl.cells l]),(5,.int .i64 s.2),(6,.int .i64 i),(7,.int .i64 s.1)],[])) 0 (fun s=>s.1≤bst.length∧0≤s.2∧s.2≤20000∧zon most (bst.drop s.1) s.2=RS) (fun s=>bst.length - s.1) (0,n) ⟨Wg _,hn0,hn1,hRS⟩ (Ent.keep rfl fin5) ?_;rintro⟨j,m⟩ ⟨hj,hm0,hm1,hgs⟩ wf;simp only at hj hm0 hm1 hgs;unfold zfB
 by_cases hjl:j < bst.length
 case neg =>
  rw[Wy (by omega),zon] at hgs;subst hgs;simp only at hgo
  (repeat first|simp(disch:=try exact dis1) only[evD,Nat.reduceBEq,Nat.reduceAdd,Nat.reduceLeDiff,fldP,dF,hg]|with_reducible first|intro _|refine aJ ?_)
  unfold zfr
  (refine Qa ?_;intros)
  exact⟨(i+1,m),⟨by simp only;omega,hm0,hm1,hgo⟩,by simp only;omega,Ent.keep rfl fin5⟩
 rw[zvD hjl] at hgs;have hgt:=zm (f:=St.cells) (d:=[]) hjl;generalize bst[j]=s at hgs hgt;obtain⟨op,var,width,next,els,tgt,e,cases⟩:=s;simp only[St.cells] at hgs hgt
 by_cases hbad:4 < e.length∨100 < cases.length
 ·
  rw[if_pos hbad] at hgs;subst hgs;simp only at hgo;subst hgo
  by_cases h4:4 < e.length
  ·
   (repeat first|simp(disch:=try exact dis1) only[evD,Nat.reduceBEq,Nat.reduceAdd,Nat.reduceLeDiff,fldP,dT,hg,hgt,za,zaV]|with_reducible first|intro _|refine aJ ?_)
   exact⟨_,.bool _ _,rfl⟩
  ·
   have h100:100 < cases.length:=by omega
   (repeat first|simp(disch:=try exact dis1) only[evD,Nat.reduceBEq,Nat.reduceAdd,Nat.reduceLeDiff,fldP,dT,dF,hg,hgt,za,zaV]|with_reducible first|intro _|refine aJ ?_)
   exact⟨_,.bool _ _,rfl⟩
 rw[if_neg hbad] at hgs
 (repeat first|simp(disch:=try exact dis1) only[evD,Nat.reduceBEq,Nat.reduceAdd,Nat.reduceLeDiff,fldP,dT,dF,hg,hgt,za]|with_reducible first|intro _|refine aJ ?_)
 generalize hRE:zpT most e m=RE at hgs;refine zk (fun s:Nat × Int=>([(1,.int .i64 most),(2,encP 2 [.int .u32 ad,encL 2 Bl.cells l]),(5,.int .i64 s.2),(6,.int .i64 i),(7,.int .i64 j),(8,.ptr 0 0 0 0 0),(9,.int .i64 s.1)],[(0,.row 8 [[.int .i64 op,.int .i64 var,.int .i64 width,.int .i64 next,.int .i64 els,.int .u32 tgt,encL 5 encX e,za cases]] 0)])) 1 (fun s=>s.1≤e.length∧0≤s.2∧s.2≤20000∧zpT most (e.drop s.1) s.2=RE) (fun s=>e.length - s.1) (0,m) ⟨Wg _,hm0,hm1,hRE⟩ (Ent.keep rfl fin5) ?_;rintro⟨k,p⟩ ⟨hk,hp0,hp1,hge⟩ wf;simp only at hk hp0 hp1 hge;unfold zff
 by_cases hkl:k < e.length
 case neg =>
  rw[Wy (by omega),zpT] at hge;subst hge;simp only at hgs
  (refine Qi ?_;intros)
  unfold zft
  (refine Qa ?_;intros)
  exact⟨(j+1,p),⟨by simp only;omega,hp0,hp1,hgs⟩,by simp only;omega,(Ent.tab [] [] rfl Qak Qak)⟩
 rw[zva hkl] at hge;have hnr:=zgP e[k] most p (by omega);have hno:=zqI (zgI e[k]) e[k] most p (Wa _) hm1' hm2 (by omega) (by omega);have hgx:(e.map encX).getD k []=encX e[k]:=zm hkl;generalize e[k]=x at hge hnr hno hgx
 (repeat first|simp(disch:=try exact dis1) only[evD,Nat.reduceBEq,Nat.reduceAdd,Nat.reduceLeDiff,fldP,dT,hgx,zbP,zbp]|with_reducible first|intro _|refine aJ ?_)
 refine zc (zg hno (flX rfl)) ?_;generalize zhJ x most p=y at hge hnr
 by_cases hy:y < 0
 ·
  rw[if_pos hy] at hge;subst hge;simp only at hgs;subst hgs;simp only at hgo;subst hgo
  (repeat first|simp(disch:=try exact dis1) only[evD,Nat.reduceBEq,Nat.reduceAdd,Nat.reduceLeDiff,dT,zaV]|with_reducible first|intro _|refine aJ ?_)
  exact⟨_,.bool _ _,rfl⟩
 ·
  rw[if_neg hy] at hge
  (refine Qk ?_;intros)
  exact⟨(k+1,y),⟨by simp only;omega,by simp only;omega,by simp only;omega,hge⟩,by simp only;omega,Ent.keep rfl fin5⟩
section
variable {σ:Type} (next:σ→Option (List AV × σ)) (val:σ→Int)
def itv:Nat→σ→List Int
 | 0,_=>[]
 |
  k+1,s=>match next s with
  | none=>[]
  | some (_,s')=>val s::itv k s'
def itn:Nat→σ→Option σ
 | 0,s=>some s
 |
  k+1,s=>match next s with
  | none=>none
  | some (_,s')=>itn k s'
theorem zqB {next:σ→Option (List AV × σ)}:∀ {k:Nat} {s0 s s':σ} {x:List AV},itn next k s0=some s→next s=some (x,s')→itn next (k+1) s0=some s'
 |
  0,s0,s,s',x,h1,h2=>by
  simp only[itn,WI] at h1;subst h1;simp[itn,h2]
 |
  k+1,s0,s,s',x,h1,h2=>by
  rw[itn] at h1 ⊢
  cases h:next s0 with
  | none=>rw[h] at h1;cases h1
  |
   some p =>
   rw[h] at h1;simp only at h1 ⊢;exact zqB h1 h2
theorem zsB:∀(k:Nat) (s:σ),(itv next val k s).length≤k
 | 0,_=>Wa _
 |
  k+1,s=>by
  rw[itv];split
  · exact Wg _
  · simpa using zsB k _
end
def zjP:List Int→AH
 | []=>[(0,.row 1 [[.nilsl]] 0)]
 | x::l=>[(0,.row 1 [[.own 1 0 0 0 (x::l).length]] 0),(1,.row 1 ((x::l).map cI) 0)]
theorem Qab {p q:Prop}(k:q)(h:Im q p:=by(repeat first|simp(disch:=try exact dis1) only[evD,Nat.reduceBEq,Nat.reduceAdd,Nat.reduceLeDiff,dT,zau] | ((with_reducible apply Im.i);intro _) | ((with_reducible apply Im.a);omega));exact Im.r):p:=h k
theorem Qr {p q:Prop}(k:q)(h:Im q p:=by(repeat first|simp(disch:=try exact dis1) only[evD,Nat.reduceBEq,Nat.reduceAdd,Nat.reduceLeDiff,zau] | ((with_reducible apply Im.i);intro _) | ((with_reducible apply Im.a);omega));exact Im.r):p:=h k
theorem Qan {p:Prop}(h:p:=by(try simp only[evWB,Nat.reduceBEq,Nat.reduceAdd,Nat.reduceSub,Nat.reduceLeDiff,Nat.reduceLT,implies_true,zjP])<;>exact fin1):p:=h
theorem Qao {p:Prop}(h:p:=by(try simp only[evWB,Nat.reduceBEq,Nat.reduceAdd,Nat.reduceSub,Nat.reduceLeDiff,Nat.reduceLT,implies_true,zjP,List.length_append,List.map_append,List.map_cons,List.map_nil,List.length_cons,List.length_nil,cI])<;>exact fin1):p:=h
theorem zke {σ:Type} {f:FuncId} {caps:List AV} {next:σ→Option (List AV × σ)} {ok:σ→Prop} {s0:σ} (hgood:zc0 Tryz.prog f=true) (hcaps:∀c∈caps,AV.Below 0 c)
  (hit:ItOk Tryz.prog f caps [] 0 next ok s0 (fun s _ _=>match s with|some s=>next s=none|none=>True)) (val:σ→Int) (hval:∀s x s',next s=some (x,s')→x=[.int .i64 (val s)]) (n:Int) (hn:n≤1000000)
  (hok:∀k s,k < n.toNat→itn next k s0=some s→ok s):zl Tryz.prog zcS [.fn (.func f) caps,.int .i64 n] (·=za (itv next val n.toNat s0)):=by
 refine fn_x zkb rfl ?_;unfold zhi;have hB:=hBig
 by_cases h0:n≤0
 ·
  have e:n.toNat=0:=by omega
  rw[e]
  (refine Qab ?_;intros)
  exact⟨_,.nil0 _ _ _,rfl⟩
 ·
  (refine Qk ?_;intros)
  generalize hR:itv next val n.toNat s0=R
  have hRl:R.length≤n.toNat:=by rw[←hR];exact zsB _ _ _ _
  refine zsw hgood hcaps hit (fun s x s' h=>by rw[hval s x s' h];rfl) [(3,.iptr 1 fun j=>[AV.int .i64 n].getD j .undef),(5,.ptr 0 0 0 0 0)] zjP 2
   (fun a s=>a++itv next val (n.toNat - a.length) s=R∧a.length < n.toNat∧itn next a.length s0=some s) (fun a e=>e=.exit 0∧a=R) []
   (fun a s h=>hok _ _ h.2.1 h.2.2) ⟨hR,by simp;omega,rfl⟩ ?_ ?_ ?_ ?_
  · simp only[zjP];exact(Ent.tab [(0,1,0)] [] rfl Qal Qal)
  ·
   rintro a s x s' ⟨h1,h2,h3⟩ hx wf;have hxv:=hval _ _ _ hx;subst hxv;clear wf;simp only[ziQ];unfold zeB
   have hm:n.toNat - a.length=(n.toNat - a.length - 1)+1:=by omega
   rw[hm,itv,hx] at h1;simp only at h1;have h4:=zqB h3 hx;generalize val s=v at *
   cases a with
   |
    nil =>
    simp only[zjP]
    (refine Qa ?_;intros)
    unfold zb3
    (refine Qa ?_;intros)
    (refine zy (fun hc=>?_) (fun hc=>?_))<;>(try simp only[dcd] at hc)
    ·
     (refine Qa ?_;intros)
     have e:n.toNat - ([]:List Int).length - 1=0:=by simp only[Wt];omega
     exact⟨[v],by rw[←h1,e,itv];rfl,(Ent.tab [(0,0,0),(1,3,0)] [] rfl Qan Qan)⟩
    ·
     (refine Qa ?_;intros)
     refine⟨[v],⟨by rw[←h1];rfl,by simp only[Ws,Wt];omega,h4⟩,(Ent.tab [(0,0,0),(1,3,0)] [] rfl Qan Qan)⟩
   |
    cons y l =>
    simp only[zjP]
    have h5:l.length+1 < n.toNat:=by simpa using h2
    (refine Qa ?_;intros)
    unfold zb3
    (refine Qa ?_;intros)
    (refine zy (fun hc=>?_) (fun hc=>?_))<;>(try simp only[dcd] at hc)
    ·
     (refine Qa ?_;intros)
     have e:n.toNat - (y::l).length - 1=0:=by simp only[Ws];omega
     exact⟨y::(l++[v]),by rw[←h1,e,itv];rfl,(Ent.tab [(0,0,0),(1,1,1)] [] rfl Qao Qao)⟩
    ·
     (refine Qa ?_;intros)
     have e:(y::(l++[v])).length=(y::l).length+1:=by simp
     exact⟨y::(l++[v]),⟨by rw[←h1,e];simp[Nat.sub_sub],by rw[e];simp only[Ws] at h2 hc ⊢;omega,by rw[e];exact h4⟩,(Ent.tab [(0,0,0),(1,1,1)] [] rfl Qao Qao)⟩
  ·
   rintro a s ⟨h1,h2,h3⟩ hx
   have hm:n.toNat - a.length=(n.toNat - a.length - 1)+1:=by omega
   rw[hm,itv,hx] at h1;simp only[List.append_nil] at h1;subst h1
   cases a with
   |
    nil =>
    simp only[zjP]
    (refine Qa ?_;intros)
    unfold zah
    (refine Qr ?_;intros)
    exact⟨_,.nil0 _ _ _,rfl⟩
   |
    cons y l =>
    simp only[zjP]
    (refine Qa ?_;intros)
    unfold zah
    (refine Qr ?_;intros)
    exact⟨_,zaL (l:=y::l) trivial rfl (by omega),rfl⟩
  ·
   rintro a e ⟨rfl,rfl⟩
   cases a with
   |
    nil =>
    simp only[zjP]
    (refine Qa ?_;intros)
    unfold zah
    (refine Qr ?_;intros)
    exact⟨_,.nil0 _ _ _,rfl⟩
   |
    cons y l =>
    simp only[zjP]
    (refine Qa ?_;intros)
    unfold zah
    (refine Qr ?_;intros)
    exact⟨_,zaL (l:=y::l) trivial rfl (by omega),rfl⟩
theorem Qz {p q:Prop}(k:q)(h:Im q p:=by(repeat first|simp(disch:=try exact dis1) only[evD,Nat.reduceBEq,Nat.reduceAdd,Nat.reduceLeDiff,dT,dF,fldP,za,St.cells,zaP] | ((with_reducible apply Im.i);intro _) | ((with_reducible apply Im.a);omega));exact Im.r):p:=h k
theorem zd6 (b:Bl) (h0:b.stmts.length≠0):zl Tryz.prog zaB [.agg b.cells] (·=za (zx b.stmts)):=by
 refine fn_x ziP rfl ?_;unfold zd9;have hB:=hBig;obtain⟨ad,l⟩:=b;simp only at h0;simp only[Bl.cells]
 have hlast:l.length - 1 < l.length:=by omega
 have hidx:(((l.length:Nat):Int) - 1).toNat=l.length - 1:=by omega
 have hg:=zm (f:=St.cells) (d:=[]) hlast;rw[zga hlast];generalize l[l.length - 1]=s at hg;obtain⟨op,var,width,next,els,tgt,e,cs⟩:=s;simp only[St.cells] at hg;unfold zg0;simp only
 (repeat first|simp(disch:=try exact dis1) only[evD,Nat.reduceBEq,Nat.reduceAdd,Nat.reduceLeDiff,fldP,dT,dF,hidx,hg]|with_reducible first|intro _|refine aJ ?_)
 by_cases h6:op=6
 ·
  rw[if_pos h6]
  (refine Qz ?_;intros)
  exact⟨_,zaL (l:=[next]) trivial rfl (by simp only[We];omega),rfl⟩
 rw[if_neg h6]
 by_cases h7:op=7
 ·
  rw[if_pos h7]
  (refine Qz ?_;intros)
  exact⟨_,zaL (l:=[next,els]) trivial rfl (by simp only[Ws,Wt];omega),rfl⟩
 rw[if_neg h7]
 by_cases h8:op=8
 ·
  rw[if_pos h8]
  (refine Qz ?_;intros)
  exact⟨_,zal rfl,rfl⟩
 rw[if_neg h8]
 (refine Qz ?_;intros)
 exact⟨_,zaL (l:=[]) trivial rfl (by simp only[Wt];omega),rfl⟩
theorem WpAL.mov {σ:Type} {P:Program} {nt:Nat} {q:Nat→List Nat} {next:σ→Option (List AV × σ)} {ok:σ→Prop} {E:YE P nt q next ok} {K:Kn} {H:AH} {nx:Nat} {s:Option σ} {Q:QTY σ} {d:Option Nat} {x:AOpd} {ys:List AOper} {drop:List Nat}
  (h:WpAL E ys drop Q (setO K d (ev K.get x)) H nx s):WpAL E (⟨d,.mov x,none⟩::ys) drop Q K H nx s:=WpAL.op (by unfold ExK zcm zkt aop;simp only[cond_true,true_implies,true_and];exact h)
def blkG (g:G) (b:Nat):Bl:=g.blocks.getD b ⟨0,[]⟩
def zy6 (g:G) (b:Nat):Bool:=match (blkG g b).stmts.getLast? with
 | some s=>s.op == 6
 | none=>false
def zek (g:G) (cs:List Int) (b j:Nat):Option Nat × Nat :=
 let l:=zx (blkG g b).stmts
 if l.length=0 then (none,j) else if zy6 g b then (some (l.getD 0 0).toNat,j) else (some (l.getD (zgi cs j l.length).1.toNat 0).toNat,zkB cs j)
def znc (g:G) (cs:List Int):Nat × Option Nat × Nat→Option (List AV × (Nat × Option Nat × Nat))
 | (k,some b,j)=>some ([.int .i64 b],(k - 1,zek g cs b j))
 | (_,none,_)=>none
def okW:Nat × Option Nat × Nat→Prop:=fun s=>s.2.1=none∨0 < s.1
structure OkG (g:G):Prop where
 pos:0 < g.blocks.length
 few:g.blocks.length≤1000000
 ends:∀b∈g.blocks,b.stmts.length≠0
 stmts:∀b∈g.blocks,b.stmts.length≤1000000
 short:∀b∈g.blocks,(zx b.stmts).length≤1000000
 tgt:∀b∈g.blocks,∀t∈zx b.stmts,0≤t∧t < g.blocks.length
theorem zlT {l:List Int} {i:Nat} (h:i < l.length):l.getD i 0∈l:=by
 have e:l.getD i 0=l[i]:=by simp[Wh,h]
 rw[e];exact Wi h
theorem zn0 {cs:List Int} {j:Nat} {n:Int} (hn:0 < n):0≤(zgi cs j n).1∧(zgi cs j n).1 < n:=by
 unfold zgi;split
 · exact⟨Int.emod_nonneg _ (by omega),Int.emod_lt_of_pos _ hn⟩
 · exact⟨Int.le_refl _,hn⟩
theorem zuu {cs:List Int} {j:Nat} (h:j≤cs.length):zkB cs j≤cs.length:=by
 unfold zkB
 split<;>omega
theorem znH (g:G) (cs:List Int) (hg:OkG g) (hcs:cs.length≤1000000) (hw:∀c∈cs,0≤c∧c < 4294967296) (n:Nat) (hn:0 < n) :
  ItOk Tryz.prog zbu [.iptr 1 fun j=>[encL 1 cW cs].getD j .undef,.iptr 2 fun j=>g.cells.getD j .undef] [] 0 (znc g cs) okW (n,some 0,0) (fun s _ _=>match s with|some s=>znc g cs s=none|none=>True):=by
 refine zui znA rfl rfl fun E hE=>?_
 unfold zjm;obtain⟨ad,l⟩:=g;simp only[G.cells];have hB:=hBig;refine WpA.seq (WpA.pure ?_)
 (refine Qo ?_;intros)
 rw[zae];refine WpA.seq (WpA.pure ?_)
 (refine Qo ?_;intros)
 rw[zae];refine WpA.block (WpA.loop (fun x:Nat × Nat × Nat=>([(0,.fn (.yield E.lp) []),(2,.iptr 2 fun j=>[AV.int .u32 ad,encL 2 Bl.cells l].getD j .undef),(4,.ptr 0 0 0 0 0),(5,.int .i64 x.2.1)],[(0,.row 2 [[encL 1 cW cs,.int .i64 x.2.2]] 0)],some (x.1,some x.2.1,x.2.2))) 1 (fun x=>0 < x.1∧x.2.1 < l.length∧x.2.2≤cs.length) (fun x=>x.1) (n,0,0) ⟨hn,hg.pos,Wg _⟩ ?_ rfl ?_)
 · rw[hE];exact(Ent.tab [(0,0,0)] [] rfl Qal Qal)
 ·
  rintro⟨k,b,j⟩ ⟨hk,hb,hj⟩ wf;simp only at hk hb hj;clear wf;unfold zgX;simp only;refine WpA.seq (WpA.seq (WpA.region (WpAL.mov (WpAL.mov (WpAL.yield (s':=(k - 1,zek ⟨ad,l⟩ cs b j)) rfl rfl ?_ (fun hok=>WpAL.nil ?_) (WpAL.nil ?_))))))
  ·
   intro x hx
   have e:x=.int .i64 b:=by
    rcases Wq.1 hx with h|h
    · exact h
    · cases h
   rw[e];exact .int _ _
  ·
   rw[zae];refine WpA.cond (t:=true) rfl (fun _=>WpA.pure ?_) (fun h=>by cases h)
   (refine Qa ?_;intros)
   rw[zae];refine WpA.pure ?_;have hgb:(l.map Bl.cells).getD b []=[.int .u32 l[b].addr,encL 8 St.cells l[b].stmts]:=zm hb;have hpo:=zd6 l[b] (hg.ends _ (Wi hb));simp only[Bl.cells] at hpo
   (repeat first|simp(disch:=try exact dis1) only[evD,Nat.reduceBEq,Nat.reduceAdd,Nat.reduceLeDiff,fldP,dT,za,hgb]|with_reducible first|intro _|refine aJ ?_)
   refine zc (zg hpo rfl) ?_
   (refine Qo ?_;intros)
   have hbk:blkG ⟨ad,l⟩ b=l[b]:=by simp[blkG,hb]
   have hmem:=Wi hb;have hm0:=hg.ends _ hmem;have hsh:=hg.short _ hmem;have hml:=hg.stmts _ hmem;have htg:=hg.tgt _ hmem;simp only at hm0 hsh htg hml
   have hst:zek ⟨ad,l⟩ cs b j=if (zx l[b].stmts).length=0 then (none,j) else if zy6 ⟨ad,l⟩ b then (some ((zx l[b].stmts).getD 0 0).toNat,j) else (some ((zx l[b].stmts).getD (zgi cs j (zx l[b].stmts).length).1.toNat 0).toNat,zkB cs j):=by simp only[zek,hbk]
   have hju:zy6 ⟨ad,l⟩ b=(l[b].stmts[l[b].stmts.length - 1].op == 6):=by unfold zy6;rw[hbk,WJ,WA (by omega)]
   rw[hst] at hok ⊢;rw[hju] at hok ⊢
   have hlast:l[b].stmts.length - 1 < l[b].stmts.length:=by omega
   have hidx:(((l[b].stmts.length:Nat):Int) - 1).toNat=l[b].stmts.length - 1:=by omega
   have hgl:=zm (f:=St.cells) (d:=[]) hlast;generalize zx l[b].stmts=T at hok hsh htg ⊢
   by_cases hT:T.length=0
   ·
    rw[if_pos hT]
    (repeat first|simp(disch:=try exact dis1) only[evD,Nat.reduceBEq,Nat.reduceAdd,Nat.reduceLeDiff,dT]|with_reducible first|intro _|refine aJ ?_)
    rfl
   ·
    rw[if_neg hT] at hok ⊢;generalize l[b].stmts[l[b].stmts.length - 1]=sx at hgl hok ⊢;obtain⟨op,var,width,nx,els,tgt,e,cases⟩:=sx;simp only[St.cells] at hgl;simp only at hok ⊢;have hw1:IntKind.i64.wrap ((l[b].stmts.length:Int) - 1)=(l[b].stmts.length:Int) - 1:=zld (by omega) (by omega)
    by_cases h6:op=6
    ·
     have hb6:(op == 6)=true:=by simp[h6]
     rw[hb6,if_pos rfl] at hok ⊢
     have hk2:0 < k - 1:=by rcases hok with h|h;cases h;exact h
     have ht:=htg (T.getD 0 0) (zlT (by omega))
     have e0:((List.map (fun n=>[AV.int .i64 n]) T).getD (Int.toNat 0) [])=[.int .i64 (((T.getD 0 0).toNat:Nat):Int)]:=by rw[WU ht.1];simp[Wh,show 0 < T.length by omega]
     (repeat first|simp(disch:=try exact dis1) only[evD,Nat.reduceBEq,Nat.reduceAdd,Nat.reduceLeDiff,fldP,dT,dF,za,hgb,hw1,hidx,hgl]|with_reducible first|intro _|refine aJ ?_)
     rw[zb6];refine⟨(k - 1,(T.getD 0 0).toNat,j),⟨hk2,by simp only;omega,hj⟩,by simp only;omega,?_,rfl⟩;rw[hE,e0];exact(Ent.tab [(0,0,0)] [] rfl Qal Qal)
    ·
     have hb6:(op == 6)=false:=by simp[h6]
     rw[hb6,if_neg (by decide)] at hok ⊢
     have hk2:0 < k - 1:=by rcases hok with h|h;cases h;exact h
     have hpv:=zn0 (cs:=cs) (j:=j) (n:=T.length) (by omega);have hpj:=zuu hj
     have hpl:(zgi cs j T.length).1.toNat < T.length:=by omega
     have ht:=htg (T.getD (zgi cs j T.length).1.toNat 0) (zlT hpl)
     have e0:((List.map (fun n=>[AV.int .i64 n]) T).getD (zgi cs j T.length).1.toNat [])=[.int .i64 (((T.getD (zgi cs j T.length).1.toNat 0).toNat:Nat):Int)]:=by rw[WU ht.1];simp[Wh,hpl]
     (repeat first|simp(disch:=try exact dis1) only[evD,Nat.reduceBEq,Nat.reduceAdd,Nat.reduceLeDiff,fldP,dT,dF,za,hgb,hw1,hidx,hgl]|with_reducible first|intro _|refine aJ ?_)
     refine(zeX cs j T.length (by omega) (by omega) (by omega) hw).mono fun v H' nx' ⟨h1,h2,h3⟩=>?_
     subst h1;subst h2;subst h3
     (repeat first|simp(disch:=try exact dis1) only[evD,Nat.reduceBEq,Nat.reduceAdd,Nat.reduceLeDiff,za,e0]|with_reducible first|intro _|refine aJ ?_)
     rw[zb6];refine⟨(k - 1,(T.getD (zgi cs j T.length).1.toNat 0).toNat,zkB cs j),⟨hk2,by simp only;omega,hpj⟩,by simp only;omega,?_,rfl⟩;rw[hE];exact(Ent.tab [(0,0,0)] [] rfl Qal Qal)
  ·
   rw[zae];refine WpA.cond (t:=false) rfl (fun h=>by cases h) (fun _=>WpA.pure ?_)
   (refine Qa ?_;intros)
   exact trivial
def znI (g:G) (cs:List Int) (most:Int):Bool:=decide (g.blocks.length≤20)&&(zit g 8&&(decide (cs.length≤40)&&decide (most≤60)))
theorem zrH (g:G) (cs:List Int) (most:Int):zl Tryz.prog zkR [.agg g.cells,encL 1 cW cs,.int .i64 most] (·=.bool (znI g cs most)):=by
 refine fn_x zrw rfl ?_;unfold zmv znI;have hB:=hBig;have hsg:=zmd g 8 (by decide) (by decide);generalize zit g 8=sg at hsg ⊢;obtain⟨ad,l⟩:=g;simp only[G.cells] at hsg ⊢
 by_cases h20:l.length≤20
 ·
  have d20:decide ((l.length:Int)≤20)=true:=by simp;omega
  rw[decide_eq_true h20,Wz]
  (repeat first|simp(disch:=try exact dis1) only[evD,Nat.reduceBEq,Nat.reduceAdd,Nat.reduceLeDiff,fldP,d20]|with_reducible first|intro _|refine aJ ?_)
  refine zc (zg hsg rfl) ?_
  cases sg with
  |
   false =>
   (repeat first|simp(disch:=try exact dis1) only[evD,Nat.reduceBEq,Nat.reduceAdd,Nat.reduceLeDiff,zeY]|with_reducible first|intro _|refine aJ ?_)
   exact⟨_,.bool _ _,rfl⟩
  |
   true =>
   rw[Wz]
   by_cases h40:cs.length≤40
   ·
    have d40:decide ((cs.length:Int)≤40)=true:=by simp;omega
    rw[decide_eq_true h40,Wz]
    (repeat first|simp(disch:=try exact dis1) only[evD,Nat.reduceBEq,Nat.reduceAdd,Nat.reduceLeDiff,d40,za,zeY]|with_reducible first|intro _|refine aJ ?_)
    exact⟨_,.bool _ _,rfl⟩
   ·
    have d40:decide ((cs.length:Int)≤40)=false:=by simp;omega
    rw[decide_eq_false h40,WH]
    (repeat first|simp(disch:=try exact dis1) only[evD,Nat.reduceBEq,Nat.reduceAdd,Nat.reduceLeDiff,d40,za,zeY]|with_reducible first|intro _|refine aJ ?_)
    exact⟨_,.bool _ _,rfl⟩
 ·
  have d20:decide ((l.length:Int)≤20)=false:=by simp;omega
  rw[decide_eq_false h20,WH]
  (repeat first|simp(disch:=try exact dis1) only[evD,Nat.reduceBEq,Nat.reduceAdd,Nat.reduceLeDiff,fldP,d20,zeY]|with_reducible first|intro _|refine aJ ?_)
  exact⟨_,.bool _ _,rfl⟩
def stX (op next els:Int) (e:List Ex):St:=⟨op,0,0,next,els,0,e,[]⟩
def zmc (n m:Int):St:=stX 7 n m [.mk 2 0 0 0 []]
theorem zap {α:Type} {n:Nat} {c:α→List AV} {l:List α}:(encL n c l).flat0=true:=rfl
theorem zaO {k:IntKind} {n:Int}:(AV.int k n).flat0=true:=rfl
theorem zaR:AV.nilsl.flat0=true:=rfl
theorem zbD {sz n:Nat} {f:Nat→Nat→AV}:(AV.sl sz n f).flat0=true:=rfl
theorem zfX (s:St):zl Tryz.prog zcD [.agg s.cells] (·=.agg (Bl.cells ⟨0,[s]⟩)):=by
 refine fn_x zvQ rfl ?_;unfold zph;have hB:=hBig;obtain⟨op,var,width,next,els,tgt,e,cases⟩:=s;simp only[St.cells,Bl.cells]
 (repeat first|simp(disch:=try exact dis1) only[evD,Nat.reduceBEq,Nat.reduceAdd,Nat.reduceLeDiff,fldP,za,zZ,zr,zap,zaO,zaR,zbD,Wu,Wj,Wk,zpL]|with_reducible first|intro _|refine aJ ?_)
 exact⟨_,zal rfl,rfl⟩
theorem zlB (n m:Int):zl Tryz.prog zg1 [.int .i64 n,.int .i64 m] (·=.agg (St.cells (zmc n m))):=by
 refine fn_x zp3 rfl ?_;unfold zk1;have hB:=hBig
 (repeat first|simp(disch:=try exact dis1) only[evD,Nat.reduceBEq,Nat.reduceAdd,Nat.reduceLeDiff,fldP,za,zZ,zr,zap,zaO,zaR,zbD,Wu,Wj,Wk,zlr]|with_reducible first|intro _|refine aJ ?_)
 refine⟨_,.agg _ _ (St.cells (zmc n m)) rfl fun i a b h1 h2=>?_,rfl⟩
 match i with
 | 0=>cases h1;cases h2;exact .int _ _ _
 | 1=>cases h1;cases h2;exact .int _ _ _
 | 2=>cases h1;cases h2;exact .int _ _ _
 | 3=>cases h1;cases h2;exact .int _ _ _
 | 4=>cases h1;cases h2;exact .int _ _ _
 | 5=>cases h1;cases h2;exact .int _ _ _
 |
  6 =>
  cases h1;cases h2
  refine .slf _ _ _ _ _ fun i j hi hj=>?_
  obtain rfl:i=0:=by omega
  match j with
  | 0=>exact .int _ _ _
  | 1=>exact .int _ _ _
  | 2=>exact .int _ _ _
  | 3=>exact .int _ _ _
  | 4=>exact .nil0 _ _ _
  | j+5=>omega
 | 7=>cases h1;cases h2;exact .nil0 _ _ _
 | i+8=>cases h1
def zgO:ACode:=.seq (.region [ (oK 2 0)] [2]) (.seq (.region [ (oM 3 0),(oX 4 3),(oF 5 0 1 4),(oL 6 5),(oE 7 6),(oM 2 7)] [0,3,4,5,6,7]) (.ret))
def zgQ:List ARet:=[.tmp 2]
theorem zlo:zT Tryz.prog zab (qRo [])=some (zgO.strip,zgQ,8):=by kernel_rfl
def zhF:ACode:=.seq (.region [ (oN 3 (.box (.t 1))),(oK 4 0)] [1,4]) (.seq (.draw ( .step (oM 5 0) ( .step (oM 6 0) ( .step (oX 7 6) ( .step (oF 8 0 1 7) ( .alt (oL 9 8) ( .alt (oA 10 3 3) ( .alt (oN 11 (.buildSl 3 1 [.int .i64 0,.int .i64 0,.nilsl] [(0,(.t 10))])) ( .alt (oN 12 (.append 3 40 (.t 9) (.t 11))) ( .step (oX 13 5) ( .step (oF 14 0 1 13) ( .alt (oS 1 14 12) ( .done) ( .stop)))) ( .stop)) ( .stop)) ( .stop)) ( .alt (oA 10 3 3) ( .alt (oL 9 8) ( .alt (oN 11 (.buildSl 3 1 [.int .i64 0,.int .i64 0,.nilsl] [(0,(.t 10))])) ( .alt (oN 12 (.append 3 40 (.t 9) (.t 11))) ( .step (oX 13 5) ( .step (oF 14 0 1 13) ( .alt (oS 1 14 12) ( .done) ( .stop)))) ( .stop)) ( .stop)) ( .alt (oN 11 (.buildSl 3 1 [.int .i64 0,.int .i64 0,.nilsl] [(0,(.t 10))])) ( .step (oL 9 8) ( .alt (oN 12 (.append 3 40 (.t 9) (.t 11))) ( .step (oX 13 5) ( .step (oF 14 0 1 13) ( .alt (oS 1 14 12) ( .done) ( .stop)))) ( .stop))) ( .stop))) ( .stop))))))) [3,5,6,7,8,9,10,11,12,13,14]) (.seq (.region [ (oM 15 0),(oX 16 15),(oF 17 0 1 16),(oL 18 17),(oE 19 18),(oC 20 .sub 19 1),(oM 4 20)] [0,15,16,17,18,19,20]) (.ret)))
def zhT:List ARet:=[.tmp 4]
theorem zl1:zT Tryz.prog zag (qRo [])=some (zhF.strip,zhT,21):=by kernel_rfl
def zg4:ACode:=.seq (.region [ (oK 4 0)] [4]) (.seq (.region [ (oM 5 0),(oM 6 1),(oN 7 (.buildSl 1 1 [.int .i64 0] [(0,(.t 6))])),(oN 8 (.build [.int .i64 0,.int .i64 0,.nilsl] [(0,1,(.c (.int .i64 1))),(2,1,(.t 7))])),(oN 9 (.call zag [(.t 5),(.t 8)])),(oM 4 9)] [0,1,5,6,7,8,9]) (.ret))
def zg5:List ARet:=[.tmp 4]
theorem zle:zT Tryz.prog zq (qRo [])=some (zg4.strip,zg5,10):=by kernel_rfl
def zI:ACode:=.seq (.region [ (oN 2 (.box (.t 0))),(oN 3 (.rbox (.t 1)))] [0,1]) (.seq (.region [ (oF 5 0 1 3),(oL 6 5)] [5]) (.block 0 (.seq (.region [ (oC 8 .eql 6 1),(oM 7 8)] [8]) (.cond (.t 7) (.region [ (oL 9 2),(oF 10 4 1 3),(oL 11 10),(oN 12 (.call zdj [(.t 9),(.t 11)]))] [2,3,6,7,9,10,11,12]) (.seq (.region [ (oC 14 .eql 6 2),(oM 13 14)] [7,14]) (.cond (.t 13) (.region [ (oL 15 2),(oF 16 1 1 3),(oL 17 16),(oN 18 (.build [.int .i64 0,.int .i64 0,.nilsl] [(0,1,(.c (.int .i64 0))),(1,1,(.t 17))])),(oN 19 (.call zag [(.t 15),(.t 18)]))] [2,3,6,13,15,16,17,18,19]) (.seq (.seq (.region [ (oC 21 .eql 6 3),(oM 20 21)] [13,21]) (.cond (.t 20) (.skip) (.region [ (oC 22 .eql 6 6),(oM 20 22)] [22]))) (.cond (.t 20) (.region [ (oL 23 2),(oF 24 4 1 3),(oL 25 24),(oN 26 (.call zcH [(.t 23),(.t 25)]))] [2,3,6,20,23,24,25,26]) (.seq (.region [ (oC 28 .eql 6 4),(oM 27 28)] [20,28]) (.cond (.t 27) (.region [ (oL 29 2),(oF 30 4 1 3),(oL 31 30),(oN 32 (.call zcN [(.t 29),(.t 31),(.c (.fn (.func zbA) []))]))] [2,3,6,27,29,30,31,32]) (.seq (.region [ (oC 34 .eql 6 5),(oM 33 34)] [27,34]) (.cond (.t 33) (.region [ (oL 35 2),(oF 36 4 1 3),(oL 37 36),(oN 38 (.mkfn (.func zbB) [(.t 2),(.t 3)])),(oN 39 (.call zcN [(.t 35),(.t 37),(.t 38)]))] [2,3,6,33,35,36,37,38,39]) (.seq (.region [ (oC 41 .eql 6 7),(oM 40 41)] [33,41]) (.cond (.t 40) (.seq (.draw ( .step (oL 42 2) ( .step (oX 43 42) ( .step (oF 44 1 1 43) ( .step (oL 45 44) ( .step (oL 46 2) ( .step (oX 47 46) ( .step (oF 48 1 1 47) ( .step (oL 49 48) ( .step (oE 50 49) ( .step (oC 51 .sub 50 1) ( .step (oI 52 1 45 51) ( .step (oL 53 52) ( .step (oM 4 53) ( .done)))))))))))))) [3,6,40,42,43,44,45,46,47,48,49,50,51,52,53]) (.draw ( .step (oM 54 4) ( .step (oM 55 4) ( .step (oX 56 55) ( .step (oF 57 1 1 56) ( .alt (oL 58 57) ( .alt (oL 59 2) ( .alt (oN 60 (.call zq [(.t 59),(.c (.int .i64 0))])) ( .alt Yaq ( .alt (oN 62 (.append 1 8 (.t 58) (.t 61))) ( .step (oX 63 54) ( .step (oF 64 1 1 63) ( .alt (oS 1 64 62) ( .done) ( .stop)))) ( .stop)) ( .stop)) ( .stop)) ( .stop)) ( .alt (oL 59 2) ( .alt (oL 58 57) ( .alt (oN 60 (.call zq [(.t 59),(.c (.int .i64 0))])) ( .alt Yaq ( .alt (oN 62 (.append 1 8 (.t 58) (.t 61))) ( .step (oX 63 54) ( .step (oF 64 1 1 63) ( .alt (oS 1 64 62) ( .done) ( .stop)))) ( .stop)) ( .stop)) ( .stop)) ( .alt (oN 60 (.call zq [(.t 59),(.c (.int .i64 0))])) ( .alt (oL 58 57) ( .alt Yaq ( .alt (oN 62 (.append 1 8 (.t 58) (.t 61))) ( .step (oX 63 54) ( .step (oF 64 1 1 63) ( .alt (oS 1 64 62) ( .done) ( .stop)))) ( .stop)) ( .stop)) ( .alt Yaq ( .step (oL 58 57) ( .alt (oN 62 (.append 1 8 (.t 58) (.t 61))) ( .step (oX 63 54) ( .step (oF 64 1 1 63) ( .alt (oS 1 64 62) ( .done) ( .stop)))) ( .stop))) ( .stop))) ( .stop))) ( .stop))))))) [2,4,54,55,56,57,58,59,60,61,62,63,64])) (.seq (.region [ (oC 66 .eql 6 8),(oM 65 66)] [40,66]) (.cond (.t 65) (.draw ( .step (oL 67 2) ( .alt (oL 68 2) ( .step (oX 69 68) ( .step (oF 70 1 1 69) ( .alt (oL 71 70) ( .alt (oL 72 2) ( .step (oX 73 72) ( .step (oF 74 1 1 73) ( .alt (oL 75 74) ( .step (oE 76 75) ( .step (oC 77 .sub 76 1) ( .alt (oI 78 1 71 77) ( .alt (oL 79 78) ( .step (oX 80 79) ( .step (oF 81 0 1 80) ( .step (oL 82 81) ( .alt (oN 83 (.call zq [(.t 67),(.t 82)])) ( .done) ( .stop))))) ( .stop)) ( .stop)))) ( .stop)))) ( .stop)) ( .alt (oL 72 2) ( .step (oX 73 72) ( .step (oF 74 1 1 73) ( .alt (oL 71 70) ( .alt (oL 75 74) ( .step (oE 76 75) ( .step (oC 77 .sub 76 1) ( .alt (oI 78 1 71 77) ( .alt (oL 79 78) ( .step (oX 80 79) ( .step (oF 81 0 1 80) ( .step (oL 82 81) ( .alt (oN 83 (.call zq [(.t 67),(.t 82)])) ( .done) ( .stop))))) ( .stop)) ( .stop)))) ( .stop)) ( .alt (oL 75 74) ( .step (oE 76 75) ( .step (oC 77 .sub 76 1) ( .alt (oL 71 70) ( .alt (oI 78 1 71 77) ( .alt (oL 79 78) ( .step (oX 80 79) ( .step (oF 81 0 1 80) ( .step (oL 82 81) ( .alt (oN 83 (.call zq [(.t 67),(.t 82)])) ( .done) ( .stop))))) ( .stop)) ( .stop)) ( .stop)))) ( .stop))))) ( .stop))))) ( .alt (oL 72 2) ( .step (oX 73 72) ( .step (oF 74 1 1 73) ( .alt (oL 68 2) ( .step (oX 69 68) ( .step (oF 70 1 1 69) ( .alt (oL 71 70) ( .alt (oL 75 74) ( .step (oE 76 75) ( .step (oC 77 .sub 76 1) ( .alt (oI 78 1 71 77) ( .alt (oL 79 78) ( .step (oX 80 79) ( .step (oF 81 0 1 80) ( .step (oL 82 81) ( .alt (oN 83 (.call zq [(.t 67),(.t 82)])) ( .done) ( .stop))))) ( .stop)) ( .stop)))) ( .stop)) ( .alt (oL 75 74) ( .step (oE 76 75) ( .step (oC 77 .sub 76 1) ( .alt (oL 71 70) ( .alt (oI 78 1 71 77) ( .alt (oL 79 78) ( .step (oX 80 79) ( .step (oF 81 0 1 80) ( .step (oL 82 81) ( .alt (oN 83 (.call zq [(.t 67),(.t 82)])) ( .done) ( .stop))))) ( .stop)) ( .stop)) ( .stop)))) ( .stop))))) ( .alt (oL 75 74) ( .step (oE 76 75) ( .step (oC 77 .sub 76 1) ( .alt (oL 68 2) ( .step (oX 69 68) ( .step (oF 70 1 1 69) ( .alt (oL 71 70) ( .alt (oI 78 1 71 77) ( .alt (oL 79 78) ( .step (oX 80 79) ( .step (oF 81 0 1 80) ( .step (oL 82 81) ( .alt (oN 83 (.call zq [(.t 67),(.t 82)])) ( .done) ( .stop))))) ( .stop)) ( .stop)) ( .stop)))) ( .stop)))) ( .stop))))) ( .stop)))) [2,3,6,65,67,68,69,70,71,72,73,74,75,76,77,78,79,80,81,82,83]) (.seq (.region [ (oC 85 .eql 6 9),(oM 84 85)] [65,85]) (.cond (.t 84) (.draw ( .step (oL 90 2) ( .step (oF 92 2 1 3) ( .alt (oL 86 2) ( .step (oX 87 86) ( .step (oF 88 3 1 87) ( .alt (oL 89 88) ( .alt (oN 91 (.call zq [(.t 90),(.c (.int .i64 0))])) ( .step (oL 93 92) ( .alt ⟨none,.xop (.mset (some .i64)) [(.t 89),(.t 91),(.t 93)],none⟩ ( .done) ( .stop))) ( .alt (oL 93 92) ( .alt (oN 91 (.call zq [(.t 90),(.c (.int .i64 0))])) ( .alt ⟨none,.xop (.mset (some .i64)) [(.t 89),(.t 91),(.t 93)],none⟩ ( .done) ( .stop)) ( .stop)) ( .stop))) ( .alt (oN 91 (.call zq [(.t 90),(.c (.int .i64 0))])) ( .step (oL 89 88) ( .step (oL 93 92) ( .alt ⟨none,.xop (.mset (some .i64)) [(.t 89),(.t 91),(.t 93)],none⟩ ( .done) ( .stop)))) ( .alt (oL 93 92) ( .alt (oL 89 88) ( .alt (oN 91 (.call zq [(.t 90),(.c (.int .i64 0))])) ( .alt ⟨none,.xop (.mset (some .i64)) [(.t 89),(.t 91),(.t 93)],none⟩ ( .done) ( .stop)) ( .stop)) ( .alt (oN 91 (.call zq [(.t 90),(.c (.int .i64 0))])) ( .step (oL 89 88) ( .alt ⟨none,.xop (.mset (some .i64)) [(.t 89),(.t 91),(.t 93)],none⟩ ( .done) ( .stop))) ( .stop))) ( .stop)))))) ( .alt (oN 91 (.call zq [(.t 90),(.c (.int .i64 0))])) ( .step (oL 86 2) ( .step (oX 87 86) ( .step (oF 88 3 1 87) ( .step (oL 89 88) ( .step (oL 93 92) ( .alt ⟨none,.xop (.mset (some .i64)) [(.t 89),(.t 91),(.t 93)],none⟩ ( .done) ( .stop))))))) ( .alt (oL 93 92) ( .alt (oL 86 2) ( .step (oX 87 86) ( .step (oF 88 3 1 87) ( .alt (oL 89 88) ( .alt (oN 91 (.call zq [(.t 90),(.c (.int .i64 0))])) ( .alt ⟨none,.xop (.mset (some .i64)) [(.t 89),(.t 91),(.t 93)],none⟩ ( .done) ( .stop)) ( .stop)) ( .alt (oN 91 (.call zq [(.t 90),(.c (.int .i64 0))])) ( .step (oL 89 88) ( .alt ⟨none,.xop (.mset (some .i64)) [(.t 89),(.t 91),(.t 93)],none⟩ ( .done) ( .stop))) ( .stop))))) ( .alt (oN 91 (.call zq [(.t 90),(.c (.int .i64 0))])) ( .step (oL 86 2) ( .step (oX 87 86) ( .step (oF 88 3 1 87) ( .step (oL 89 88) ( .alt ⟨none,.xop (.mset (some .i64)) [(.t 89),(.t 91),(.t 93)],none⟩ ( .done) ( .stop)))))) ( .stop))) ( .stop)))))) [2,3,6,84,86,87,88,89,90,91,92,93]) (.seq (.region [ (oC 95 .eql 6 10),(oM 94 95)] [84,95]) (.cond (.t 94) (.draw ( .step (oL 96 2) ( .step (oX 97 96) ( .step (oF 98 2 1 97) ( .step (oL 99 98) ( .step (oF 100 2 1 3) ( .step (oL 101 100) ( .step (oL 102 2) ( .step (oN 103 (.callq zab [(.t 102)])) ( .alt ⟨none,.xop (.mset (some .i64)) [(.t 99),(.t 101),(.t 103)],none⟩ ( .done) ( .stop)))))))))) [2,3,6,94,96,97,98,99,100,101,102,103]) (.seq (.seq (.region [ (oC 105 .eql 6 11),(oM 104 105)] [3,94,105]) (.cond (.t 104) (.skip) (.region [ (oC 106 .eql 6 12),(oM 104 106)] [6,106]))) (.cond (.t 104) (.region [ (oL 107 2),(oN 108 (.build [.int .i64 0,.int .i64 0,.nilsl] [(0,1,(.c (.int .i64 2)))])),(oN 109 (.call zag [(.t 107),(.t 108)]))] [2,6,104,107,108,109]) (.skip)))))))))))))))))))))))
def zG:List ARet:=[]
theorem zN:zT Tryz.prog zbU (qRoL [3] [(15,[0,1,2,3,4,5,7,8,9,10,11,12,13,14,15,16,17,18,19,20,21,22,23,24,25,26,27,28,29,30,31,32,33,34,35,36,37,38,39,40,41,42,43,44,45,46,47,48,49,50,51,52,53,54,55,56,57,58,59,60,61,62,63,64,65,66,67,68,69,70,71,72,73,74,75,76,77,78,79,80,81,82,83,84,85,86,87,88,89,90,91,92,93,94,95,96,97,98,99,100,101,102,103,104,105,106,107,108,109,110,111,112,113,114,115,116,117,118,119,120,121,122,123,124,125,126,127,128,129,130,131,132,133,134,135,136,137,138,139,140,141,142,143,144,145,146,147,148,149]),(17,[0,1,2,3,4,5,6,7,8,9,10,11,12,13,14,15,17,18,19,20,21,22,23,24,25,26,27,28,29,30,31,32,33,34,35,36,37,38,39,40,41,42,43,44,45,46,47,48,49,50,51,52,53,54,55,56,57,58,59,60,61,62,63,64,65,66,67,68,69,70,71,72,73,74,75,76,77,78,79,80,81,82,83,84,85,86,87,88,89,90,91,92,93,94,95,96,97,98,99,100,101,102,103,104,105,106,107,108,109,110,111,112,113,114,115,116,117,118,119,120,121,122,123,124,125,126,127,128,129,130,131,132,133,134,135,136,137,138,139,140,141,142,143,144,145,146,147,148,149]),(19,[0,1,2,3,4,6,7,8,9,10,11,12,13,14,15,16,17,18,19,20,21,22,23,24,25,26,27,28,29,30,31,32,33,34,35,36,37,38,39,40,41,42,43,44,45,46,47,48,49,50,51,52,53,54,55,56,57,58,59,60,61,62,63,64,65,66,67,68,69,70,71,72,73,74,75,76,77,78,79,80,81,82,83,84,85,86,87,88,89,90,91,92,93,94,95,96,97,98,99,100,101,102,103,104,105,106,107,108,109,110,111,112,113,114,115,116,117,118,119,120,121,122,123,124,125,126,127,128,129,130,131,132,133,134,135,136,137,138,139,140,141,142,143,144,145,146,147,148,149])])=some (zI.strip,zG,110):=by kernel_rfl
def zfF:ACode:=.seq (.region [ (oB 9 .lss 8 7)] []) (.seq (.cond (.t 9) (.skip) (.exit 0)) (.seq (.block 1 (.seq (.region [ (oI 10 5 6 8),(oA 11 5 10),(oN 5 (.alloc [.int .i64 0,.int .i64 0,.int .i64 0,.nilsl,.nilsl])),(oS 5 5 11)] [9,10,11]) (.region [ (oM 12 0),(oA 13 5 5),(oN 14 (.call zbU [(.t 12),(.t 13)]))] [5,12,13,14]))) (.region [ (oC 15 .add 8 1),(oM 8 15)] [15])))
def zhB:ACode:=.seq (.region [ (oM 6 1),(oE 7 6),(oK 8 0)] [1]) (.block 0 (.loop zfF))
def zhx:List ARet:=[]
theorem zlW:zT Tryz.prog zdj (qRo [])=some (zhB.strip,zhx,16):=by kernel_rfl
def zdg:ACode:=.seq (.region [ (oM 38 0),(oA 39 5 7),(oN 40 (.call zbU [(.t 38),(.t 39)]))] [7,38,39,40]) (.region [ (oM 41 5),(oM 42 0),(oN 43 (.call zq [(.t 42),(.c (.int .i64 0))])),(oN 44 (.buildSl 1 1 [.int .i64 0] [(0,(.t 43))])),(oN 45 (.append 1 8 (.t 41) (.t 44))),(oM 5 45)] [41,42,43,44,45])
def zdf:ACode:=.seq (.region [ (oB 16 .lss 15 14)] []) (.seq (.cond (.t 16) (.skip) (.exit 0)) (.seq (.block 1 (.seq (.region [ (oI 17 5 13 15),(oA 18 5 17),(oN 7 (.alloc [.int .i64 0,.int .i64 0,.int .i64 0,.nilsl,.nilsl])),(oS 5 7 18)] [16,17,18]) (.join (.draw ( .step (oM 19 0) ( .step (oX 20 19) ( .step (oF 21 0 1 20) ( .step (oM 23 4) ( .step (oM 24 0) ( .step (oX 25 24) ( .step (oF 26 0 1 25) ( .step (oM 28 4) ( .step (oM 32 0) ( .step (oN 33 (.callq zab [(.t 32)])) ( .alt (oL 22 21) ( .alt (oL 27 26) ( .alt Yak ( .step Yal ( .alt (oL 31 30) ( .alt Yai ( .alt Yad ( .alt Yae ( .step Yaf ( .alt Yag ( .done) ( .stop))) ( .stop)) ( .stop)) ( .stop)) ( .alt Yai ( .step (oL 31 30) ( .alt Yad ( .alt Yae ( .step Yaf ( .alt Yag ( .done) ( .stop))) ( .stop)) ( .stop))) ( .stop)))) ( .alt Yai ( .alt Yak ( .step Yal ( .step (oL 31 30) ( .alt Yad ( .alt Yae ( .step Yaf ( .alt Yag ( .done) ( .stop))) ( .stop)) ( .stop)))) ( .stop)) ( .stop))) ( .alt Yai ( .alt (oL 27 26) ( .alt Yak ( .step Yal ( .step (oL 31 30) ( .alt Yad ( .alt Yae ( .step Yaf ( .alt Yag ( .done) ( .stop))) ( .stop)) ( .stop)))) ( .stop)) ( .stop)) ( .stop))) ( .alt (oL 27 26) ( .alt (oL 22 21) ( .alt Yak ( .step Yal ( .alt (oL 31 30) ( .alt Yai ( .alt Yad ( .alt Yae ( .step Yaf ( .alt Yag ( .done) ( .stop))) ( .stop)) ( .stop)) ( .stop)) ( .alt Yai ( .step (oL 31 30) ( .alt Yad ( .alt Yae ( .step Yaf ( .alt Yag ( .done) ( .stop))) ( .stop)) ( .stop))) ( .stop)))) ( .alt Yai ( .alt Yak ( .step Yal ( .step (oL 31 30) ( .alt Yad ( .alt Yae ( .step Yaf ( .alt Yag ( .done) ( .stop))) ( .stop)) ( .stop)))) ( .stop)) ( .stop))) ( .alt Yak ( .step Yal ( .alt (oL 22 21) ( .alt (oL 31 30) ( .alt Yai ( .alt Yad ( .alt Yae ( .step Yaf ( .alt Yag ( .done) ( .stop))) ( .stop)) ( .stop)) ( .stop)) ( .alt Yai ( .step (oL 31 30) ( .alt Yad ( .alt Yae ( .step Yaf ( .alt Yag ( .done) ( .stop))) ( .stop)) ( .stop))) ( .stop))) ( .alt (oL 31 30) ( .alt (oL 22 21) ( .alt Yai ( .alt Yad ( .alt Yae ( .step Yaf ( .alt Yag ( .done) ( .stop))) ( .stop)) ( .stop)) ( .stop)) ( .alt Yai ( .alt (oL 22 21) ( .alt Yad ( .alt Yae ( .step Yaf ( .alt Yag ( .done) ( .stop))) ( .stop)) ( .stop)) ( .alt Yad ( .step (oL 22 21) ( .alt Yae ( .step Yaf ( .alt Yag ( .done) ( .stop))) ( .stop))) ( .stop))) ( .stop))) ( .alt Yai ( .step (oL 31 30) ( .alt (oL 22 21) ( .alt Yad ( .alt Yae ( .step Yaf ( .alt Yag ( .done) ( .stop))) ( .stop)) ( .stop)) ( .alt Yad ( .step (oL 22 21) ( .alt Yae ( .step Yaf ( .alt Yag ( .done) ( .stop))) ( .stop))) ( .stop)))) ( .stop))))) ( .alt Yai ( .alt (oL 22 21) ( .alt Yak ( .step Yal ( .step (oL 31 30) ( .alt Yad ( .alt Yae ( .step Yaf ( .alt Yag ( .done) ( .stop))) ( .stop)) ( .stop)))) ( .stop)) ( .alt Yak ( .step Yal ( .step (oL 31 30) ( .alt (oL 22 21) ( .alt Yad ( .alt Yae ( .step Yaf ( .alt Yag ( .done) ( .stop))) ( .stop)) ( .stop)) ( .alt Yad ( .step (oL 22 21) ( .alt Yae ( .step Yaf ( .alt Yag ( .done) ( .stop))) ( .stop))) ( .stop))))) ( .stop))) ( .stop)))) ( .alt Yai ( .alt (oL 22 21) ( .alt (oL 27 26) ( .alt Yak ( .step Yal ( .step (oL 31 30) ( .alt Yad ( .alt Yae ( .step Yaf ( .alt Yag ( .done) ( .stop))) ( .stop)) ( .stop)))) ( .stop)) ( .stop)) ( .alt (oL 27 26) ( .alt (oL 22 21) ( .alt Yak ( .step Yal ( .step (oL 31 30) ( .alt Yad ( .alt Yae ( .step Yaf ( .alt Yag ( .done) ( .stop))) ( .stop)) ( .stop)))) ( .stop)) ( .alt Yak ( .step Yal ( .step (oL 31 30) ( .alt (oL 22 21) ( .alt Yad ( .alt Yae ( .step Yaf ( .alt Yag ( .done) ( .stop))) ( .stop)) ( .stop)) ( .alt Yad ( .step (oL 22 21) ( .alt Yae ( .step Yaf ( .alt Yag ( .done) ( .stop))) ( .stop))) ( .stop))))) ( .stop))) ( .stop))) ( .stop)))))))))))))) [19,20,21,22,23,24,25,26,27,28,29,30,31,32,33,34,35,36,37]) (zdg)))) (.region [ (oC 46 .add 15 1),(oM 15 46)] [46])))
def zde:ACode:=.seq (.region [ (oB 50 .lss 49 48)] []) (.seq (.cond (.t 50) (.skip) (.exit 2)) (.seq (.block 3 (.seq (.region [ (oI 51 1 47 49),(oL 52 51),(oM 9 52)] [50,51,52]) (.draw ( .step (oM 53 0) ( .step (oX 54 53) ( .step (oF 55 0 1 54) ( .step (oL 56 55) ( .step (oM 57 9) ( .step (oI 58 3 56 57) ( .step (oF 59 2 1 58) ( .step (oL 60 59) ( .step (oM 61 0) ( .step (oN 62 (.callq zab [(.t 61)])) ( .step (oN 63 (.idx 1 (.t 60) (.c (.int .i64 0)))) ( .alt (oS 1 63 62) ( .done) ( .stop))))))))))))) [9,53,54,55,56,57,58,59,60,61,62,63]))) (.region [ (oC 64 .add 49 1),(oM 49 64)] [64])))
def zc8:ACode:=.seq (.region [ (oM 47 5),(oE 48 47),(oK 49 0)] [4,5,13,14,15]) (.block 2 (.loop zde))
def zd5:ACode:=.seq (.region [ (oM 10 0),(oN 11 (.build [.int .i64 0,.int .i64 0,.nilsl] [(0,1,(.c (.int .i64 1))),(1,1,(.c (.int .i64 (-1))))])),(oN 12 (.call zag [(.t 10),(.t 11)])),(oM 4 12)] [10,11,12]) (.seq (.region [ (oN 5 (.mknil 1))] []) (.seq (.seq (.region [ (oM 13 1),(oE 14 13),(oK 15 0)] [1]) (.block 0 (.loop zdf))) (zc8)))
def zed:List ARet:=[]
theorem ziN:zT Tryz.prog zcH (qRo [])=some (zd5.strip,zed,65):=by kernel_rfl
def zeV:ACode:=.seq (.region [ (oB 55 .lss 54 53)] []) (.seq (.cond (.t 55) (.skip) (.exit 0)) (.seq (.block 1 (.seq (.region [ (oI 56 1 52 54),(oL 57 56),(oM 9 57)] [55,56,57]) (.draw ( .step (oM 58 0) ( .step (oX 59 58) ( .step (oF 60 0 1 59) ( .step (oL 61 60) ( .step (oM 62 9) ( .step (oI 63 3 61 62) ( .step (oF 64 2 1 63) ( .step (oL 65 64) ( .step (oM 66 0) ( .step (oN 67 (.callq zab [(.t 66)])) ( .step (oN 68 (.idx 1 (.t 65) (.c (.int .i64 0)))) ( .alt (oS 1 68 67) ( .done) ( .stop))))))))))))) [9,58,59,60,61,62,63,64,65,66,67,68]))) (.region [ (oC 69 .add 54 1),(oM 54 69)] [69])))
def zeW:ACode:=.seq (.region [ (oM 70 7),(oC 71 .geq 70 0)] [52,53,54,70]) (.cond (.t 71) (.draw ( .step (oM 72 0) ( .step (oX 73 72) ( .step (oF 74 0 1 73) ( .step (oL 75 74) ( .step (oM 76 7) ( .step (oI 77 3 75 76) ( .step (oF 78 2 1 77) ( .step (oL 79 78) ( .step (oM 80 0) ( .step (oN 81 (.callq zab [(.t 80)])) ( .step (oN 82 (.idx 1 (.t 79) (.c (.int .i64 1)))) ( .alt (oS 1 82 81) ( .done) ( .stop))))))))))))) [0,7,71,72,73,74,75,76,77,78,79,80,81,82]) (.skip))
def zeT:ACode:=.seq (.region [ (oM 26 0),(oM 27 1),(oN 28 (.call zdj [(.t 26),(.t 27)]))] [1,26,27,28]) (.seq (.draw ( .step (oM 29 0) ( .step (oM 30 0) ( .step (oX 31 30) ( .step (oF 32 1 1 31) ( .step (oL 33 32) ( .step (oM 34 0) ( .step (oX 35 34) ( .step (oF 36 1 1 35) ( .step (oL 37 36) ( .step (oE 38 37) ( .step (oC 39 .sub 38 1) ( .step (oN 40 (.slice 1 (.t 33) none (some (.t 39)))) ( .step (oX 41 29) ( .step (oF 42 1 1 41) ( .alt (oS 1 42 40) ( .done) ( .stop)))))))))))))))) [29,30,31,32,33,34,35,36,37,38,39,40,41,42]) (.seq (.region [ (oM 43 0),(oM 44 6),(oX 45 44),(oF 46 0 1 45),(oL 47 46),(oN 48 (.call zq [(.t 43),(.t 47)]))] [43,44,45,46,47,48]) (.seq (.seq (.region [ (oM 49 6),(oX 50 49),(oF 51 1 1 50),(oL 52 51),(oE 53 52),(oK 54 0)] [6,49,50,51]) (.block 0 (.loop zeV))) (zeW))))
def zhc:ACode:=.seq (.region [ (oM 10 0),(oN 11 (.call zab [(.t 10)])),(oN 12 (.build [.int .i64 0,.nilsl] [(0,1,(.t 11))])),(oN 13 (.box (.t 12))),(oM 6 13)] [10,11,12,13]) (.seq (.region [ (oM 14 2),(oN 15 (.callv (.t 14) [])),(oM 7 15)] [2,14,15]) (.seq (.region [ (oM 16 0),(oM 17 0),(oX 18 17),(oF 19 1 1 18),(oL 20 19),(oM 21 6),(oN 22 (.buildSl 1 1 [.nilp] [(0,(.t 21))])),(oN 23 (.append 1 8 (.t 20) (.t 22))),(oX 24 16),(oF 25 1 1 24),(oS 1 25 23)] [16,17,18,19,20,21,22,23,24,25]) (.mark 2 (zeT))))
def zdD:List ARet:=[]
theorem zlL:zT Tryz.prog zcN (qRo [])=some (zhc.strip,zdD,83):=by kernel_rfl
def zfu:ACode:=.seq (.region [ (oK 0 0)] [0]) (.seq (.region [ (oK 0 (-1))] []) (.ret))
def zfl:List ARet:=[.tmp 0]
theorem zjQ:zT Tryz.prog zbA (qRo [])=some (zfu.strip,zfl,1):=by kernel_rfl
def zfE:ACode:=.seq (.region [ (oK 2 0)] [2]) (.seq (.region [ (oL 4 0),(oF 5 1 1 1),(oL 6 5),(oN 7 (.build [.int .i64 0,.int .i64 0,.nilsl] [(0,1,(.c (.int .i64 0))),(1,1,(.t 6))])),(oN 8 (.call zag [(.t 4),(.t 7)]))] [1,4,5,6,7,8]) (.seq (.region [ (oL 9 0),(oN 10 (.buildSl 1 2 [.int .i64 0] [(0,(.c (.int .i64 0))),(1,(.c (.int .i64 0)))])),(oN 11 (.build [.int .i64 0,.int .i64 0,.nilsl] [(0,1,(.c (.int .i64 1))),(2,1,(.t 10))])),(oN 12 (.call zag [(.t 9),(.t 11)])),(oM 3 12)] [9,10,11,12]) (.seq (.draw ( .step (oL 13 0) ( .step (oX 14 13) ( .step (oF 15 0 1 14) ( .step (oL 16 15) ( .step (oM 17 3) ( .step (oI 18 3 16 17) ( .step (oF 19 2 1 18) ( .step (oL 20 19) ( .step (oL 21 0) ( .step (oN 22 (.callq zab [(.t 21)])) ( .step (oN 23 (.idx 1 (.t 20) (.c (.int .i64 0)))) ( .alt (oS 1 23 22) ( .done) ( .stop))))))))))))) [0,13,14,15,16,17,18,19,20,21,22,23]) (.seq (.region [ (oM 24 3),(oM 2 24)] [3,24]) (.ret)))))
def zfh:List ARet:=[.tmp 2]
theorem zjY:zT Tryz.prog zbB (qRo [])=some (zfE.strip,zfh,25):=by kernel_rfl
def zej:ACode:=.seq (.region [ (oN 21 (.mnext (.t 20))),(oT 22 0 21)] [21]) (.seq (.cond (.t 22) (.skip) (.exit 0)) (.block 1 (.seq (.region [ (oN 23 (.xop .ment [(.t 20)])),(oT 24 0 23),(oT 25 1 23),(oM 4 24),(oM 5 25)] [22,23,24,25]) (.draw ( .step (oM 26 3) ( .step (oX 27 26) ( .step (oF 28 0 1 27) ( .step (oL 29 28) ( .step (oM 30 4) ( .step (oI 31 3 29 30) ( .step (oF 32 2 1 31) ( .step (oL 33 32) ( .step (oM 34 3) ( .step (oX 35 34) ( .step (oF 36 2 1 35) ( .step (oL 37 36) ( .step (oM 38 5) ( .step (oN 39 (.xop (.mlook (some .i64) false (.int .i64 0)) [(.t 37),(.t 38)])) ( .step (oN 40 (.idx 1 (.t 33) (.c (.int .i64 0)))) ( .alt (oS 1 40 39) ( .done) ( .stop))))))))))))))))) [4,5,26,27,28,29,30,31,32,33,34,35,36,37,38,39,40]))))
def zea:ACode:=.seq (.region [ (oM 41 3),(oM 2 41)] [3,20,41]) (.ret)
def zei:ACode:=.seq (.region [ (oM 10 3),(oA 11 5 1),(oN 12 (.call zbU [(.t 10),(.t 11)]))] [1,10,11,12]) (.seq (.region [ (oM 13 3),(oN 14 (.build [.int .i64 0,.int .i64 0,.nilsl] [(0,1,(.c (.int .i64 2)))])),(oN 15 (.call zag [(.t 13),(.t 14)]))] [13,14,15]) (.seq (.seq (.region [ (oM 16 3),(oX 17 16),(oF 18 3 1 17),(oL 19 18),(oN 20 (.xop .mrange [(.t 19)]))] [16,17,18,19]) (.block 0 (.loop zej))) (zea)))
def zf9:ACode:=.seq (.region [ Yaa,(oN 2 (.mov (.c (.nilp))))] [0,2]) (.seq (.region [ (oN 6 (.xop .mkmap [])),(oN 7 (.xop .mkmap [])),(oN 8 (.build [.nilsl,.nilsl,.nilmp,.nilmp] [(2,1,(.t 6)),(3,1,(.t 7))])),(oN 9 (.box (.t 8))),(oM 3 9)] [6,7,8,9]) (.mark 1 (zei)))
def zgz:List ARet:=[.tmp 2]
theorem zkW:zT Tryz.prog zdz (qRo [1])=some (zf9.strip,zgz,42):=by kernel_rfl
def zhs:ACode:=.seq (.region [ (oN 3 (.rbox (.t 0))),(oN 4 (.rbox (.t 1))),(oN 5 (.box (.t 2))),(oN 6 (.mov (.c (.nilfn))))] [0,1,2,6]) (.seq (.region [ (oN 7 (.mkfn (.func zbK) [(.t 4),(.t 3),(.t 5)])),(oM 6 7)] [3,4,5,7]) (.ret))
def zhD:List ARet:=[.tmp 6]
theorem zlO:zT Tryz.prog ze8 (qRo [3,4])=some (zhs.strip,zhD,8):=by kernel_rfl
def zen:ACode:=.block 1 (.seq (.seq (.region [ (oM 14 6),(oL 15 2),(oX 16 15),(oF 17 0 1 16),(oL 18 17),(oE 19 18),(oB 20 .gtr 14 19)] [14,15,16,17,18,19]) (.cond (.t 20) (.seq (.region [ (oL 21 3),(oN 22 (.callv (.t 21) []))] [0,2,3,5,6,7,20,21,22]) (.ret)) (.skip))) (.seq (.region [ (oM 23 6),(oC 24 .add 23 1),(oM 6 24)] [20,23,24]) (.seq (.region [ (oL 25 2),(oX 26 25),(oF 27 0 1 26),(oL 28 27),(oM 29 7),(oI 30 3 28 29),(oA 31 3 30),(oN 8 (.alloc [.int .i64 0,.int .i64 0,.nilsl])),(oS 3 8 31)] [25,26,27,28,29,30,31]) (.seq (.region [ (oF 32 0 1 8),(oL 33 32)] [32]) (.block 2 (.seq (.region [ (oC 35 .eql 33 2),(oM 34 35)] [35]) (.cond (.t 34) (.ret) (.seq (.region [ (oC 37 .eql 33 0),(oM 36 37)] [34,37]) (.cond (.t 36) (.seq (.seq (.region [ (oM 38 0),(oF 39 1 1 8),(oL 40 39),(oN 41 (.callv (.t 38) [(.t 40)])),(oN 42 (.un .not (.t 41)))] [6,8,33,36,38,39,40,41]) (.cond (.t 42) (.ret) (.skip))) (.seq (.region [ (oK 6 0)] [42]) (.region [ (oM 43 7),(oC 44 .add 43 1),(oM 7 44)] [43,44]))) (.seq (.region [ (oC 46 .eql 33 1),(oM 45 46)] [33,36,46]) (.cond (.t 45) (.seq (.seq (.region [ (oF 47 2 1 8),(oL 48 47),(oE 49 48),(oC 50 .eql 49 1),(oM 51 50),(oG 52 51 true (.fldaddr 1 1 (.t 8))),(oG 53 51 true (.load false 1 (.t 52))),(oG 54 51 true (.bin .neq (.t 53) (.c (.int .i64 (-1))))),(oN 55 (.pick (.t 51) (.t 54) (.c (.bool false))))] [7,45,47,48,49,50,51,52,53,54]) (.cond (.t 55) (.seq (.region [ (oF 56 2 1 8),(oL 57 56),(oN 58 (.idx 1 (.t 57) (.c (.int .i64 0)))),(oL 59 58),(oM 7 59)] [8,55,56,57,58,59]) (.exit 1)) (.skip))) (.seq (.region [ (oM 61 5),(oF 62 2 1 8),(oL 63 62),(oE 64 63),(oN 65 (.call zbS [(.t 61),(.t 64)])),(oM 60 65),(oT 66 0 60),(oT 67 1 60),(oM 9 66),(oM 10 67)] [7,55,60,61,62,63,64,65,66,67]) (.seq (.seq (.region [ (oM 68 10)] [10]) (.cond (.t 68) (.region [ (oK 6 0)] [68]) (.skip))) (.region [ (oF 69 2 1 8),(oL 70 69),(oM 71 9),(oI 72 1 70 71),(oL 73 72),(oM 7 73)] [8,9,68,69,70,71,72,73])))) (.skip))))))))))))
def zf6:ACode:=.seq (.region [ (oL 11 1),(oN 12 (.build [.nilsl,.int .i64 0] [(0,1,(.t 11))])),(oN 13 (.box (.t 12))),(oM 5 13)] [1,11,12,13]) (.seq (.region [ (oK 6 0)] []) (.seq (.region [ (oK 7 0)] []) (.block 0 (.loop zen))))
def zkG:List ARet:=[]
theorem zkv:zT Tryz.prog zbK (qRo [])=some (zf6.strip,zkG,74):=by kernel_rfl
def zk8:ACode:=.seq (.region [ (oN 4 (.rbox (.t 0))),(oN 5 (.rbox (.t 1))),(oN 8 (.mknil 1)),(oK 9 0)] [0,1,8,9]) (.seq (.seq (.region [ (oA 13 5 4),(oA 14 2 5),(oN 15 (.call zeC [(.t 13),(.t 14)])),(oM 10 15)] [5,13,14,15]) (.seq (.region [ (oM 16 10),(oC 17 .neq 16 0)] [16]) (.cond (.t 17) (.seq (.region [ (oM 18 10),(oN 8 (.mknil 1)),(oM 9 18)] [2,3,4,10,17,18]) (.ret)) (.skip)))) (.seq (.seq (.region [ (oM 19 3),(oC 20 .gtr 19 65536)] [8,9,10,17,19]) (.cond (.t 20) (.seq (.region [ (oN 8 (.mknil 1)),(oK 9 6)] [2,3,4,20]) (.ret)) (.skip))) (.seq (.region [ (oN 11 (.alloc [.int .i64 0])),⟨none,.store 1 (.t 11) (.c (.int .i64 0)),none⟩] [8,9,20]) (.seq (.region [ (oA 21 5 4),(oN 22 (.call zdz [(.t 21)])),(oM 23 2),(oN 24 (.mkfn (.func zci) [(.t 11)])),(oN 25 (.call ze8 [(.t 22),(.t 23),(.t 24)])),(oM 26 3),(oN 27 (.call zcS [(.t 25),(.t 26)])),(oM 12 27)] [2,3,4,21,22,23,24,25,26,27]) (.seq (.seq (.region [ (oL 28 11),(oC 29 .neq 28 0)] [28]) (.cond (.t 29) (.seq (.draw ( .alt (oL 30 11) ( .alt (oN 8 (.mknil 1)) ( .step (oM 9 30) ( .done)) ( .stop)) ( .alt (oN 8 (.mknil 1)) ( .step (oL 30 11) ( .step (oM 9 30) ( .done))) ( .stop))) [11,12,29,30]) (.ret)) (.skip))) (.seq (.region [ (oM 31 12),(oM 8 31),(oK 9 0)] [11,12,29,31]) (.ret)))))))
def zdR:List ARet:=[.tmp 8,.tmp 9]
theorem zpZ:zT Tryz.prog ze0 (qRo [4,5])=some (zk8.strip,zdR,32):=by kernel_rfl
def zi7:ACode:=.region [ ⟨none,.store 1 (.t 0) (.c (.int .i64 15)),none⟩] [0]
def zi2:List ARet:=[]
theorem znP:zT Tryz.prog zci (qRo [])=some (zi7.strip,zi2,1):=by kernel_rfl
def hd2 (gs n:Nat) (a1 a2 a3:AV) (stc:List (List AV)) (R:AH):AH:=(0,.row 4 [[.own 1 0 gs 0 n,a1,a2,a3]] 0)::(1,.row 3 stc gs)::R
structure RestOk (N:Nat) (R:AH):Prop where
 two:2≤N
 num:∀r o,R.look r=some o→2≤r∧r < N
theorem RestOk.none {N:Nat} {R:AH} (h:RestOk N R) {x:Nat} (hx:N≤x):R.look x=none:=by
 cases hl:R.look x with
 | none=>rfl
 | some o=>have:=(h.num _ _ hl).2;omega
theorem zK {T:AH} {N:Nat} {x:AObj}:(T.put N x).look N=some x:=by rw[AH.look_put,if_pos rfl]
theorem zj {a:Nat × AObj} {A B:AH} (h:∀r o,A.look r=some o→B.look r=some o):∀r o,AH.look (a::A) r=some o→AH.look (a::B) r=some o:=by
 intro r o;obtain⟨j,x⟩:=a;simp only[AH.look];cases Nat.beq j r
 · exact h r o
 · exact id
theorem zgn {H:AH} {nx gs n:Nat} {a1 a2 a3:AV} {stc:List (List AV)} (h0:H.get 0 0=some (.row 4 [[.own 1 0 gs 0 n,a1,a2,a3]] 0)) (h1:H.get 1 0=some (.row 3 stc gs)) (hn:n≤stc.length) (hb:n≤1000000):zc5 Tryz.prog zab [.ptr 0 0 0 0 0] H nx (.int .i64 n):=by
 have hB:=hBig
 have hp:zl Tryz.prog zab [.iptr 4 fun j=>[AV.sl 3 n fun _ _=>.undef,.undef,.undef,.undef].getD j .undef] (·=.int .i64 n):=by
  refine fn_x zlo rfl ?_;unfold zgO
  (repeat first|simp(disch:=try exact dis1) only[evD,Nat.reduceBEq,Nat.reduceAdd,Nat.reduceLeDiff,lenR,zgQ]|with_reducible first|intro _|refine aJ ?_)
  exact⟨_,.int _ _ _,rfl⟩
 refine zM (D:=allR) hp (.cons (.frzp _ 0 0 0 0 0 4 4 _ _ trivial h0 (by simp) (by simp) fun j hj=>?_) .nil) (.inl rfl)
 match j with
 | 0=>exact .frz _ 1 0 gs 0 n 3 stc _ trivial h1 (by omega) (by omega) (fun i j _ _=>.undef _ _)
 | 1=>exact .undef _ _
 | 2=>exact .undef _ _
 | 3=>exact .undef _ _
 | j+4=>omega
theorem ziT (gs n:Nat) (a1 a2 a3:AV) (stc:List (List AV)) (R:AH) (N:Nat) (k b:Int) (v:AV) (hn:n=stc.length) (hR:RestOk N R) (hl:n≤1000000) (hv:v.solid=true) :
  z7 Tryz.prog zag [.ptr 0 0 0 0 0,.agg [.int .i64 k,.int .i64 b,v]] (hd2 gs n a1 a2 a3 stc R) N
  (fun x H nx=>N≤nx∧x=.int .i64 n∧H=hd2 (gs+1) (n+1) a1 a2 a3 (stc++[[.int .i64 k,.int .i64 b,v]]) R):=by
 subst hn;refine z8 (fn_x zl1 rfl ?_);unfold zhF hd2;have hB:=hBig;have h2:=hR.two;have n0:(0 == N)=false:=beq_false_of_ne (by omega);have n1:(1 == N)=false:=beq_false_of_ne (by omega);have m0:(0 == N+1)=false:=beq_false_of_ne (by omega);have m1:(1 == N+1)=false:=beq_false_of_ne (by omega);have tN:R.look N=none:=hR.none (Wa _)
 have tN1:∀o,(R.put N o).look (N+1)=none:=fun o=>by rw[AH.look_put,if_neg (by omega)];exact hR.none (by omega)
 have tN2:∀o o',((R.put N o).put (N+1) o').look N=some o:=fun o o'=>by rw[AH.look_put,if_neg (by omega),zK]
 have e1:(stc++[[AV.int .i64 k,.int .i64 b,v]]).length=stc.length+1:=by simp
 have ktr:stc.take stc.length=stc:=WV
 (repeat first|simp(disch:=try exact dis1) only[evD,Nat.reduceBEq,Nat.reduceAdd,Nat.reduceLeDiff,hv,n0,n1,m0,m1,tN,tN1,tN2,zC,zK,ktr,zhT]|with_reducible first|intro _|refine aJ ?_)
 have fin:zrv N (fun x H nx=>N≤nx∧x=.int .i64 stc.length∧H=(0,.row 4 [[.own 1 0 (gs+1) 0 (stc.length+1),a1,a2,a3]] 0)::(1,.row 3 (stc++[[.int .i64 k,.int .i64 b,v]]) (gs+1))::R)
   (.int .i64 (((stc.length+1:Nat):Int) - 1)) ((0,.row 4 [[.own 1 0 (gs+1) 0 (stc.length+1),a1,a2,a3]] 0)::(1,.row 3 (stc++[[.int .i64 k,.int .i64 b,v]]) (gs+1))::(R.put N (.row 3 [[.int .i64 k,.int .i64 b,v]] 0)).put (N+1) (.row 3 [[.int .i64 k,.int .i64 b,v]] 0)) (N+1+1):=by
  refine⟨.int .i64 stc.length,_,N+1+1,Ent.forget (by omega) (Wa _) ?_ (fun i=>.inr ?_),by omega,rfl,rfl⟩
  · exact zj (zj (fun x o h=>by
    have:=hR.num x o h;rw[AH.look_put,if_neg (by omega),AH.look_put,if_neg (by omega)]
    exact h))
  ·
   have:(((stc.length+1:Nat):Int) - 1)=(stc.length:Int):=by omega
   rw[this]
 refine⟨⟨by omega,fun _=>fin⟩,⟨by omega,fun _=>fin⟩,by omega,fun _=>fin⟩
structure PSt where
 kind:Int
 block:Int
 to:Option (List Int)
structure PC where
 st:List PSt
 lp:List (Int × List Int)
 lab:List (Int × Int)
 got:List (Int × Int)
structure Gn where
 gs:Nat
 gl:Nat
 s2:List (List AV)
 gt:Nat→Nat
 tl:Nat→List Int
 gx:Nat→Nat
 xl:Nat→List (Int × AV)
 gb:Nat→Nat
 bl:Nat→List Int
def toV (gt:Nat→Nat) (k:Nat):Option (List Int)→AV
 | none=>.nilsl
 | some l=>.own 5 (k+1) (gt k) 0 l.length
def cS (gt:Nat→Nat) (k:Nat) (s:PSt):List AV:=[.int .i64 s.kind,.int .i64 s.block,toV gt k s.to]
def stC (gt:Nat→Nat) (l:List PSt):List (List AV):=l.mapIdx (cS gt)
def cX (p:Int × AV):List AV:=[.int .i64 p.1,p.2]
def lpC (gx:Nat→Nat) (n:Nat):List (List AV):=(List.range n).map fun d=>[.ptr 6 (d+1) (gx d) 0 0]
def cMp (i:Nat) (e:Int × Int):List AV:=[.int .i64 e.1,.int .i64 e.2,.int .i64 i]
def mpC (l:List (Int × Int)):List (List AV):=[.int .i64 l.length,.undef,.undef]::l.mapIdx cMp
def cH (M:Nat) (p:PC) (γ:Gn) (T:AH):AH :=
 (0,.row 4 [[.own 1 0 γ.gs 0 p.st.length,.own 2 0 γ.gl 0 p.lp.length,.mp 3 0,.mp 4 0]] 0)::(1,.row 3 (stC γ.gt p.st) γ.gs)::(2,.row 1 (lpC γ.gx p.lp.length++γ.s2) γ.gl)::(3,.row 3 (mpC p.lab) 0)::(4,.row 3 (mpC p.got) 0) ::
  (5,.fam 1 (fi cI M γ.tl γ.gt))::(6,.fam 2 (fi cX M γ.xl γ.gx))::(7,.fam 1 (fi cI M γ.bl γ.gb))::T
structure OkC (p:PC) (γ:Gn):Prop where
 to:∀k (h:k < p.st.length) l,p.st[k].to=some l→γ.tl k=l
 lp:∀d (h:d < p.lp.length),γ.xl d=[(p.lp[d].1,if p.lp[d].2=[] then .nilsl else .own 7 (d+1) (γ.gb d) 0 p.lp[d].2.length)]∧(p.lp[d].2≠[]→γ.bl d=p.lp[d].2)
 s2:zl0 8 γ.s2
 xl:∀d,∀x∈γ.xl d,x.2.lt0 8=true
structure TailOk (N:Nat) (T:AH):Prop where
 eight:8≤N
 num:∀r o,T.look r=some o→8≤r∧r < N
 low:ziW N T
theorem zme {n r sz g:Nat} {els:List (List AV)} (hr:r < n) (he:zl0 n els):∀ {T:AH},ziW n T→ziW n (T.put r (.row sz els g))
 | [],_=>⟨⟨hr,he⟩,trivial⟩
 |
  (j,.row s e g0)::t,h=>by
  simp only[AH.put];cases Nat.beq j r
  · exact⟨h.1,zme hr he h.2⟩
  · exact⟨⟨hr,he⟩,h.2⟩
 |
  (j,.fam s ins)::t,h=>by
  simp only[AH.put];cases Nat.beq j r
  · exact⟨h.1,zme hr he h.2⟩
  · exact⟨⟨hr,he⟩,h.2⟩
theorem zjt {n m:Nat} (h:n≤m) {els:List (List AV)} (he:zl0 n els):zl0 m els:=fun c hc=>by
 have:=he c hc;rw[List.all_eq_true] at this ⊢;intro a ha;have h1:=this a ha
 cases a<;>simp only[AV.lt0,Nat.blt_eq] at h1 ⊢<;>first|rfl|omega|cases h1
theorem zid {n m:Nat} (h:n≤m):∀ {T:AH},ziW n T→ziW m T
 | [],_=>trivial
 | (_,.row ..)::_,ht=>⟨⟨WW ht.1.1 h,zjt h ht.1.2⟩,zid h ht.2⟩
 | (_,.fam ..)::_,ht=>⟨⟨WW ht.1.1 h,fun p hp=>zjt h (ht.1.2 p hp)⟩,zid h ht.2⟩
theorem TailOk.none {N:Nat} {R:AH} (h:TailOk N R) {x:Nat} (hx:N≤x):R.look x=none:=by
 cases hl:R.look x with
 | none=>rfl
 | some o=>have:=(h.num _ _ hl).2;omega
theorem TailOk.put {N:Nat} {R:AH} (h:TailOk N R) (sz:Nat) (els:List (List AV)) (he:zl0 (N+1) els) (g:Nat:=0):TailOk (N+1) (R.put N (.row sz els g)):=by
 refine⟨by have:=h.eight;omega,fun r o' hr=>?_,zme (by omega) he (zid (by omega) h.low)⟩;rw[AH.look_put] at hr;split at hr
 · rename_i e;subst e;exact⟨h.eight,by omega⟩
 · have:=h.num _ _ hr;omega
theorem TailOk.up {N N':Nat} {R:AH} (h:TailOk N R) (hN:N≤N'):TailOk N' R:=⟨Wl h.eight hN,fun r o hr=>by have:=h.num r o hr;omega,zid hN h.low⟩
theorem zco {gt:Nat→Nat} {l:List PSt}:(stC gt l).length=l.length:=by simp[stC]
theorem zqd {gt:Nat→Nat} {l:List PSt} {s:PSt}:stC gt (l++[s])=stC gt l++[cS gt l.length s]:=by simp[stC,WX]
theorem zqi {gt:Nat→Nat} {l:List PSt} {k:Nat} (h:k < l.length):(stC gt l).getD k []=cS gt k l[k]:=by simp[stC,Wh,h]
theorem stC_gt {gt gt':Nat→Nat} {l:List PSt} (h:∀k,k < l.length→gt' k=gt k):stC gt' l=stC gt l:=by
 apply Wv;intro i;simp only[stC,WB]
 cases hi:l[i]? with
 | none=>rfl
 |
  some s =>
  have:=(WK.1 hi).1;simp only[Wf,cS,toV]
  cases s.to with
  | none=>rfl
  | some l=>simp only[h i this]
theorem zug {gt:Nat→Nat} {l:List PSt} {v:Nat}:stC (updF gt l.length v) l=stC gt l:=stC_gt fun k hk=>zdm (by omega)
def addP (p:PC) (s:PSt):PC:={ p with st:=p.st++[s] }
def zaA (p:PC) (v:Int):PC:=addP p ⟨1,0,some [v]⟩
theorem zjo {M:Nat} {p:PC} {γ:Gn} {T:AH} {x:Nat} (hx:8≤x):(cH M p γ T).look x=T.look x:=by unfold cH;simp only[AH.look,zH (show 0≠x by omega),zH (show 1≠x by omega),zH (show 2≠x by omega),zH (show 3≠x by omega),zH (show 4≠x by omega),zH (show 5≠x by omega),zH (show 6≠x by omega),zH (show 7≠x by omega),cond_false]
def zmP (M:Nat) (p:PC) (γ:Gn) (T:AH):AH:=(2,.row 1 (lpC γ.gx p.lp.length++γ.s2) γ.gl)::(3,.row 3 (mpC p.lab) 0)::(4,.row 3 (mpC p.got) 0) ::
  (5,.fam 1 (fi cI M γ.tl γ.gt))::(6,.fam 2 (fi cX M γ.xl γ.gx))::(7,.fam 1 (fi cI M γ.bl γ.gb))::T
theorem zwF {M:Nat} {p:PC} {γ:Gn} {T:AH} {N:Nat} (hT:TailOk N T):RestOk N (zmP M p γ T):=by
 have h8:=hT.eight;refine⟨by omega,fun r o h=>?_⟩
 match r with
 | 0=>unfold zmP at h;simp only[AH.look,zH (show 2≠0 by omega),zH (show 3≠0 by omega),zH (show 4≠0 by omega),zH (show 5≠0 by omega),zH (show 6≠0 by omega),zH (show 7≠0 by omega),cond_false] at h;have:=hT.num _ _ h;omega
 | 1=>unfold zmP at h;simp only[AH.look,zH (show 2≠1 by omega),zH (show 3≠1 by omega),zH (show 4≠1 by omega),zH (show 5≠1 by omega),zH (show 6≠1 by omega),zH (show 7≠1 by omega),cond_false] at h;have:=hT.num _ _ h;omega
 | 2=>omega
 | 3=>omega
 | 4=>omega
 | 5=>omega
 | 6=>omega
 | 7=>omega
 |
  r+8 =>
  unfold zmP at h;simp only[AH.look,zH (show 2≠r+8 by omega),zH (show 3≠r+8 by omega),zH (show 4≠r+8 by omega),zH (show 5≠r+8 by omega),zH (show 6≠r+8 by omega),zH (show 7≠r+8 by omega),cond_false] at h;have:=hT.num _ _ h;omega
def addG (γ:Gn):Gn:={ γ with gs:=γ.gs+1 }
theorem zcR (M:Nat) (p:PC) (γ:Gn) (T:AH) (N:Nat) (k b:Int) (hok:OkC p γ) (hT:TailOk N T) (hl:p.st.length≤1000000) :
  z7 Tryz.prog zag [.ptr 0 0 0 0 0,.agg [.int .i64 k,.int .i64 b,.nilsl]] (cH M p γ T) N
  (fun x H nx=>N≤nx∧x=.int .i64 p.st.length∧OkC (addP p ⟨k,b,none⟩) (addG γ)∧H=cH M (addP p ⟨k,b,none⟩) (addG γ) T):=by
 refine(ziT γ.gs p.st.length (.own 2 0 γ.gl 0 p.lp.length) (.mp 3 0) (.mp 4 0) (stC γ.gt p.st) (zmP M p γ T) N k b .nilsl zco.symm (zwF hT) hl rfl).mono fun x H nx h=>⟨h.1,h.2.1,⟨fun k' h' l e=>?_,hok.lp,hok.s2,hok.xl⟩,?_⟩
 ·
  simp only[addP] at h' e ⊢
  by_cases hk:k' < p.st.length
  · rw[WC hk] at e;exact hok.to k' hk l e
  · rw[WY (by omega)] at e;simp at e
 · rw[h.2.2];unfold hd2 cH zmP addP addG;simp only[zqd,Wd,We,cS,toV]
def zhX (γ:Gn) (k:Nat) (l:List Int):Gn:={ γ with gs:=γ.gs+1,gt:=updF γ.gt k (γ.gt k+1),tl:=updF γ.tl k l }
theorem OkC.step {p:PC} {γ:Gn} (hok:OkC p γ) (k b:Int) (l:List Int):OkC (addP p ⟨k,b,some l⟩) (zhX γ p.st.length l):=by
 refine⟨fun k' h' l' e=>?_,hok.lp,hok.s2,hok.xl⟩;simp only[addP,zhX] at h' e ⊢
 by_cases hk:k' < p.st.length
 · rw[WC hk] at e;rw[zdm (by omega)];exact hok.to k' hk l' e
 ·
  have hk':k'=p.st.length:=by simp at h';omega
  subst hk';rw[WY (by omega)] at e;simp only[Nat.sub_self,WD,WI] at e;rw[zbh,e]
theorem zt6 {B nx M:Nat} {K K2:Kn} {p:PC} {γ:Gn} {T:AH} {N:Nat} {k b:Int} {l:List Int} (hB:B≤nx) (hT:TailOk N T) (hl:p.st.length < M) (hK:zo9 (some N) 5 (p.st.length+1) (γ.gt p.st.length+1) K2 K) :
  Ent B K (hd2 (γ.gs+1) (p.st.length+1) (.own 2 0 γ.gl 0 p.lp.length) (.mp 3 0) (.mp 4 0) (stC γ.gt p.st++[[.int .i64 k,.int .i64 b,.own N 0 0 0 l.length]]) (zmP M p γ (T.put N (.row 1 (l.map cI) 0)))) nx K2 (cH M (addP p ⟨k,b,some l⟩) (zhX γ p.st.length l) T) nx:=by
 have h8:=hT.eight;refine Ent.adoptF (c:=cI) (F:=5) (k:=p.st.length) (m:=M) (sz:=1) (ll:=γ.tl) (gs:=γ.gt) (l:=l) (some N) hB hl rfl ?_ (by simp) ?_ hK
 · rintro x ⟨rfl⟩;refine⟨by omega,?_⟩;unfold hd2 zmP;simp only[AH.look,zH (show 0≠N by omega),zH (show 1≠N by omega),zH (show 2≠N by omega),zH (show 3≠N by omega),zH (show 4≠N by omega),zH (show 5≠N by omega),zH (show 6≠N by omega),zH (show 7≠N by omega),cond_false];exact zK
 ·
  intro x o2 h
  match x with
  | 0=>cases h;exact⟨fun m e=>by cases e;omega,.inr ⟨by omega,_,rfl,by simp only[addP,zhX,Wd,We];exact .same _⟩⟩
  |
   1 =>
   cases h;refine⟨fun m e=>by cases e;omega,.inr ⟨by omega,_,rfl,?_⟩⟩;simp only[addP,zhX,zqd,zug];refine .row _ _ _ _ (RowA.app (RowA.cons ?_ (RowA.refl _)) _);simp only[cS,toV,zbh];exact⟨.same _,.same _,.own _ _ _ rfl,trivial⟩
  | 2=>cases h;exact⟨fun m e=>by cases e;omega,.inr ⟨by omega,_,rfl,.same _⟩⟩
  | 3=>cases h;exact⟨fun m e=>by cases e;omega,.inr ⟨by omega,_,rfl,.same _⟩⟩
  | 4=>cases h;exact⟨fun m e=>by cases e;omega,.inr ⟨by omega,_,rfl,.same _⟩⟩
  | 5=>cases h;exact⟨fun m e=>by cases e;omega,.inl ⟨rfl,rfl⟩⟩
  | 6=>cases h;exact⟨fun m e=>by cases e;omega,.inr ⟨by omega,_,rfl,.same _⟩⟩
  | 7=>cases h;exact⟨fun m e=>by cases e;omega,.inr ⟨by omega,_,rfl,.same _⟩⟩
  |
   x+8 =>
   rw[zjo (by omega)] at h;have hx:=hT.num _ _ h;refine⟨fun m e=>by cases e;omega,.inr ⟨by omega,o2,?_,.same _⟩⟩;unfold hd2 zmP;simp only[AH.look,zH (show 0≠x+8 by omega),zH (show 1≠x+8 by omega),zH (show 2≠x+8 by omega),zH (show 3≠x+8 by omega),zH (show 4≠x+8 by omega),zH (show 5≠x+8 by omega),zH (show 6≠x+8 by omega),zH (show 7≠x+8 by omega),cond_false];rw[AH.look_put,if_neg (by omega)];exact h
theorem znS {T:AH} {r:Nat} {a b:AObj}:(T.put r a).put r b=T.put r b:=by
 induction T with
 | nil=>simp[AH.put]
 |
  cons p t ih =>
  obtain⟨j,u⟩:=p;simp only[AH.put]
  cases hb:Nat.beq j r with
  | true=>simp[AH.put]
  | false=>simp only[cond_false,AH.put,hb,ih]
theorem ne8 {x:Nat} (h:8≤x):(0 == x)=false∧(1 == x)=false∧(2 == x)=false∧(3 == x)=false∧(4 == x)=false∧(5 == x)=false∧(6 == x)=false∧(7 == x)=false :=
 ⟨beq_false_of_ne (by omega),beq_false_of_ne (by omega),beq_false_of_ne (by omega),beq_false_of_ne (by omega),beq_false_of_ne (by omega),beq_false_of_ne (by omega),beq_false_of_ne (by omega),beq_false_of_ne (by omega)⟩
theorem zcT (M:Nat) (p:PC) (γ:Gn) (T:AH) (N:Nat) (v:Int) (hok:OkC p γ) (hT:TailOk N T) (hl:p.st.length < M) (hM:M≤1000000) :
  z7 Tryz.prog zq [.ptr 0 0 0 0 0,.int .i64 v] (cH M p γ T) N
  (fun x H nx=>N≤nx∧x=.int .i64 p.st.length∧OkC (zaA p v) (zhX γ p.st.length [v])∧H=cH M (zaA p v) (zhX γ p.st.length [v]) T):=by
 refine z8 (fn_x zle rfl ?_);unfold zg4;simp only[cH];have hB:=hBig;have h8:=hT.eight;obtain⟨n0,n1,n2,n3,n4,n5,n6,n7⟩:=ne8 hT.eight;have tN:T.look N=none:=hT.none (Wa _)
 (repeat first|simp(disch:=try exact dis1) only[evD,Nat.reduceBEq,Nat.reduceAdd,Nat.reduceLeDiff,n0,n1,n2,n3,n4,n5,n6,n7,tN,zC,zK]|with_reducible first|intro _|refine aJ ?_)
 refine(ziT γ.gs p.st.length (.own 2 0 γ.gl 0 p.lp.length) (.mp 3 0) (.mp 4 0) (stC γ.gt p.st) (zmP M p γ (T.put N (.row 1 [[.int .i64 v]] 0))) (N+1) 1 0 (.own N 0 0 0 1) zco.symm (zwF (hT.put 1 [[.int .i64 v]] (zhP (by simp[zr,AV.flat0])))) (by omega) rfl).mono ?_;rintro x H nx ⟨h1,rfl,rfl⟩
 (repeat first|simp(disch:=try exact dis1) only[evD,Nat.reduceBEq,Nat.reduceAdd,Nat.reduceLeDiff,zg5]|with_reducible first|intro _|refine aJ ?_)
 exact⟨.int .i64 p.st.length,_,nx,zt6 (l:=[v]) (by omega) hT hl ⟨.same _,trivial⟩,by omega,rfl,hok.step 1 0 [v],rfl⟩
def zeG (p:PC) (b:Int):PC:=addP (addP p ⟨0,b,none⟩) ⟨1,0,some [((p.st.length+2:Nat):Int),0]⟩
theorem zoa (H:AH) (nx:Nat):z7 Tryz.prog zbA [] H nx (fun v H' nx'=>v=.int .i64 (-1)∧H'=H∧nx'=nx):=by
 refine fn_x zjQ rfl ?_;unfold zfu;have hB:=hBig
 (repeat first|simp(disch:=try exact dis1) only[evD,Nat.reduceBEq,Nat.reduceAdd,Nat.reduceLeDiff,zfl]|with_reducible first|intro _|refine aJ ?_)
theorem zn8 (M:Nat) (p:PC) (γ:Gn) (T:AH) (N rc:Nat) (b:Int) (c:Nat→AV) (hok:OkC p γ) (hT:TailOk N T) (hl:p.st.length+2≤M) (hM:M≤1000000) (hrc:T.look rc=some (.row 1 [[.ptr 0 0 0 0 0]] 0)) (hc:c 1=.int .i64 b) :
  z7 Tryz.prog zbB [.ptr rc 0 0 0 0,.iptr 5 c] (cH M p γ T) N
  (fun x H nx=>N≤nx∧x=.int .i64 ((p.st.length+1:Nat):Int)∧∃γ',OkC (zeG p b) γ'∧γ'.gx=γ.gx∧H=cH M (zeG p b) γ' T):=by
 refine z8 (fn_x zjY rfl ?_);unfold zfE;simp only[cH];have hB:=hBig;have h8:=hT.eight;obtain⟨r0,r1,r2,r3,r4,r5,r6,r7⟩:=ne8 (hT.num _ _ hrc).1;have tN:T.look N=none:=hT.none (Wa _)
 (repeat first|simp(disch:=try exact dis1) only[evD,Nat.reduceBEq,Nat.reduceAdd,Nat.reduceLeDiff,r0,r1,r2,r3,r4,r5,r6,r7,hrc,hc]|with_reducible first|intro _|refine aJ ?_)
 refine(zcR M p γ T N 0 b hok hT (by omega)).mono ?_;rintro x H N1 ⟨hN1,rfl,hok1,rfl⟩;have hgx:(addG γ).gx=γ.gx:=rfl;generalize addG γ=γ1 at *;have hT1:=hT.up hN1;obtain⟨n0,n1,n2,n3,n4,n5,n6,n7⟩:=ne8 hT1.eight;have tN1:T.look N1=none:=hT1.none (Wa _);have hrl:=(hT.num _ _ hrc).2
 have hrc1:∀o,(T.put N1 o).look rc=some (.row 1 [[.ptr 0 0 0 0 0]] 0):=fun o=>by rw[AH.look_put,if_neg (by omega)];exact hrc
 unfold zeG
 have hlen:(addP p ⟨0,b,none⟩).st.length=p.st.length+1:=by simp[addP]
 generalize addP p ⟨0,b,none⟩=p1 at *
 have hl1:p1.st.length+1≤M:=by omega
 rw[show ((p.st.length+1:Nat):Int)=(p1.st.length:Int) by omega,show ((p.st.length+2:Nat):Int)=((p1.st.length+1:Nat):Int) by omega];clear hlen;simp only[cH]
 (repeat first|simp(disch:=try exact dis1) only[evD,Nat.reduceBEq,Nat.reduceAdd,Nat.reduceLeDiff,r0,r1,r2,r3,r4,r5,r6,r7,hrc,n0,n1,n2,n3,n4,n5,n6,n7,tN1,zC,zK]|with_reducible first|intro _|refine aJ ?_)
 refine(ziT γ1.gs p1.st.length (.own 2 0 γ1.gl 0 p1.lp.length) (.mp 3 0) (.mp 4 0) (stC γ1.gt p1.st) (zmP M p1 γ1 (T.put N1 (.row 1 [[.int .i64 0],[.int .i64 0]] 0))) (N1+1) 1 0 (.own N1 0 0 0 2) zco.symm (zwF (hT1.put 1 [[.int .i64 0],[.int .i64 0]] (zhP (by simp[zr,AV.flat0])))) (by omega) rfl).mono ?_;rintro x H N2 ⟨hN2,rfl,rfl⟩;simp only[hd2,zmP]
 have hgk:(stC γ1.gt p1.st++[[AV.int .i64 1,.int .i64 0,.own N1 0 0 0 2]]).getD p1.st.length []=[.int .i64 1,.int .i64 0,.own N1 0 0 0 2]:=by simp[Wh,zco]
 have e1:(stC γ1.gt p1.st++[[AV.int .i64 1,.int .i64 0,.own N1 0 0 0 2]]).length=p1.st.length+1:=by simp[zco]
 (repeat first|simp(disch:=try exact dis1) only[evD,Nat.reduceBEq,Nat.reduceAdd,Nat.reduceLeDiff,r0,r1,r2,r3,r4,r5,r6,r7,hrc1,Wr,hgk,e1,n0,n1,n2,n3,n4,n5,n6,n7,zC,zK]|with_reducible first|intro _|refine aJ ?_)
 refine zbT (zgn (by rfl) (by rfl) (by simp[zco]) (by omega)) ?_
 (repeat first|simp(disch:=try exact dis1) only[evD,Nat.reduceBEq,Nat.reduceAdd,Nat.reduceLeDiff,Wr,hgk,n0,n1,n2,n3,n4,n5,n6,n7,zC,zK,znS,zfh]|with_reducible first|intro _|refine aJ ?_)
 exact⟨_,_,N2,zt6 (l:=[((p1.st.length+1:Nat):Int),0]) (by omega) hT1 (by omega) ⟨.same _,trivial⟩,by omega,rfl,_,hok1.step 1 0 _,hgx,rfl⟩
theorem zk0 {M:Nat} {p:PC} {γ:Gn} {T:AH} {N:Nat} (hok:OkC p γ) (hT:TailOk N T):ziW N (cH M p γ T):=by
 have h8:=hT.eight
 have b:∀ {k:Nat},k < 8→Nat.blt k N=true:=fun hk=>by rw[Nat.blt_eq];omega
 refine⟨⟨by omega,?_⟩,⟨by omega,?_⟩,⟨by omega,?_⟩,⟨by omega,?_⟩,⟨by omega,?_⟩,⟨by omega,?_⟩,⟨by omega,?_⟩,⟨by omega,?_⟩,hT.low⟩
 · intro c hc;rw[Wc.1 hc];simp only[Wj,Wk,AV.lt0,b (show 1 < 8 by omega),b (show 2 < 8 by omega),b (show 3 < 8 by omega),b (show 4 < 8 by omega),Wu]
 ·
  intro c hc;unfold stC at hc;obtain⟨i,hi,rfl⟩:=WL.1 hc;simp only[cS,toV]
  split<;>simp only[Wj,Wk,AV.lt0,b (show 5 < 8 by omega),Wu]
 ·
  intro c hc
  rcases WE.1 hc with hc|hc
  · obtain⟨d,_,rfl⟩:=Ww.1 hc;simp only[Wj,Wk,AV.lt0,b (show 6 < 8 by omega),Wu]
  · exact zjt h8 hok.s2 c hc
 ·
  intro c hc
  rcases Wq.1 hc with rfl|hc
  · rfl
  · obtain⟨i,hi,rfl⟩:=WL.1 hc;rfl
 ·
  intro c hc
  rcases Wq.1 hc with rfl|hc
  · rfl
  · obtain⟨i,hi,rfl⟩:=WL.1 hc;rfl
 ·
  intro p hp;obtain⟨i,_,rfl⟩:=Ww.1 hp
  exact zn5 fun _=>rfl
 · intro p hp;obtain⟨i,_,rfl⟩:=Ww.1 hp;intro c hc;obtain⟨x,hx,rfl⟩:=Ww.1 hc;have h1:zl0 N [[x.2]]:=zjt h8 (fun c hc=>by rw[Wc.1 hc,Wj,Wk,hok.xl i x hx];rfl);have h2:=h1 [x.2] (by simp);simp only[cX,Wj,Wk,Bool.and_true] at h2 ⊢;rw[h2];rfl
 ·
  intro p hp;obtain⟨i,_,rfl⟩:=Ww.1 hp
  exact zn5 fun _=>rfl
def setL (l:List (Int × Int)) (k v:Int):List (Int × Int):=match l.findIdx? (fun e=>decide (e.1=k)) with
 | some i=>l.set i (k,v)
 | none=>l++[(k,v)]
def setTo (p:PC) (k i:Nat) (v:Int):PC:={ p with st:=p.st.modify k fun s=>{ s with to:=s.to.map fun l=>l.set i v } }
def appTo (p:PC) (k:Nat) (v:Int):PC:={ p with st:=p.st.modify k fun s=>{ s with to:=s.to.map fun l=>l++[v] } }
def putAll (p:PC) (ks:List Int) (v:Int):PC:=ks.foldl (fun p k=>setTo p k.toNat 0 v) p
def topL (l:List (Int × List Int)):Int:=match l.getLast? with
 | some x=>x.1
 | none=>0
def brkL (l:List (Int × List Int)):List Int:=match l.getLast? with
 | some x=>x.2
 | none=>[]
def zkf (l:List (Int × List Int)) (k:Int):List (Int × List Int):=match l.getLast? with
 | some x=>l.dropLast++[(x.1,x.2++[k])]
 | none=>l
def zbl (p:PC) (top:Int):PC:={ p with lp:=p.lp++[(top,[])] }
def zaQ (p:PC):PC:=addP p ⟨1,-1,some []⟩
def zdZ (q:PC) (top:Int):PC:=let q1:=zaA { q with lp:=q.lp.dropLast } top;putAll q1 (brkL q.lp) (q1.st.length:Int)
mutual
def zaC:Nd→PC→PC
 |
  .mk f _ l,p =>
  if f.kind=1 then zay l p
  else if f.kind=2 then addP p ⟨0,f.block,none⟩
  else if f.kind=3∨f.kind=6 then
   let r:=brP p.st.length l (zaQ p) []
   putAll r.1 r.2 (r.1.st.length:Int)
  else if f.kind=4 then zdZ (zay l (zbl p p.st.length)) p.st.length
  else if f.kind=5 then
   let q:=zdZ (zay l (zbl (zeG p f.block) p.st.length)) p.st.length
   setTo q (p.st.length+1) 1 (q.st.length:Int)
  else if f.kind=7 then { zaA p 0 with lp:=zkf p.lp p.st.length }
  else if f.kind=8 then zaA p (topL p.lp)
  else if f.kind=9 then { zaA p 0 with got:=setL p.got p.st.length f.label }
  else if f.kind=10 then { p with lab:=setL p.lab f.label p.st.length }
  else if f.kind=11∨f.kind=12 then addP p ⟨2,0,none⟩
  else p
def zay:List Nd→PC→PC
 | [],p=>p
 | n::l,p=>zay l (zaC n p)
def brP (at':Nat):List Nd→PC→List Int→PC × List Int
 | [],p,ends=>(p,ends)
 | n::l,p,ends=>let q:=zaC n (appTo p at' p.st.length);brP at' l (zaA q 0) (ends++[(q.st.length:Int)])
end
def zqb (l:List Nd) (p:PC):PC:=let r:=brP p.st.length l (zaQ p) [];putAll r.1 r.2 (r.1.st.length:Int)
def zrc (b:Option Int) (l:List Nd) (p:PC):PC:=match b with
 | none=>zdZ (zay l (zbl p p.st.length)) p.st.length
 | some b=>let q:=zdZ (zay l (zbl (zeG p b) p.st.length)) p.st.length;setTo q (p.st.length+1) 1 (q.st.length:Int)
theorem zcL (f:NdF) (c:List Ex) (l:List Nd) (p:PC):zaC (.mk f c l) p =
  if f.kind=1 then zay l p else if f.kind=2 then addP p ⟨0,f.block,none⟩ else if f.kind=3∨f.kind=6 then zqb l p else if f.kind=4 then zrc none l p else if f.kind=5 then zrc (some f.block) l p
  else if f.kind=7 then { zaA p 0 with lp:=zkf p.lp p.st.length } else if f.kind=8 then zaA p (topL p.lp) else if f.kind=9 then { zaA p 0 with got:=setL p.got p.st.length f.label }
  else if f.kind=10 then { p with lab:=setL p.lab f.label p.st.length } else if f.kind=11∨f.kind=12 then addP p ⟨2,0,none⟩ else p:=by
 rw[zaC];rfl
mutual
def zdy:Nd→Bool→Bool
 | .mk f _ l,b=>if (f.kind=7∨f.kind=8)∧b=false then true else zaM l (b||decide (f.kind=4)||decide (f.kind=5))
def zaM:List Nd→Bool→Bool
 | [],_=>false
 | e::l,b=>zdy e b||zaM l b
end
def zjV (p:PC) (k n:Nat):Prop:=∃s l,p.st[k]? = some s∧s.to=some l∧n≤l.length
structure Keep (p q:PC):Prop where
 len:p.st.length≤q.st.length
 to:∀k n,zjV p k n→zjV q k n
theorem Keep.refl (p:PC):Keep p p:=⟨Wa _,fun _ _ h=>h⟩
theorem Keep.trans {p q r:PC} (h:Keep p q) (k:Keep q r):Keep p r:=⟨Wl h.len k.len,fun i n x=>k.to i n (h.to i n x)⟩
theorem Keep.of_st {p q:PC} (h:q.st=p.st):Keep p q:=⟨by rw[h];exact Wa _,fun k n x=>by unfold zjV at x ⊢;rw[h];exact x⟩
theorem zbO (p:PC) (s:PSt):Keep p (addP p s):=by refine⟨by simp[addP],fun k n ⟨s',l,h1,h2,h3⟩=>⟨s',l,?_,h2,h3⟩⟩;simp only[addP];rw[WZ (WK.1 h1).1];exact h1
theorem zjB (p:PC) (k i:Nat) (v:Int):Keep p (setTo p k i v):=by
 refine⟨by simp[setTo],fun k' n ⟨s',l,h1,h2,h3⟩=>?_⟩;simp only[setTo,zjV,Wm]
 by_cases hk:k=k'
 · subst hk;refine⟨{ s' with to:=s'.to.map fun l=>l.set i v },l.set i v,?_,by simp[h2],by simpa using h3⟩;simp[h1]
 · exact⟨s',l,by simp[hk,h1],h2,h3⟩
theorem zjC (p:PC) (k:Nat) (v:Int):Keep p (appTo p k v):=by
 refine⟨by simp[appTo],fun k' n ⟨s',l,h1,h2,h3⟩=>?_⟩;simp only[appTo,zjV,Wm]
 by_cases hk:k=k'
 · subst hk;refine⟨{ s' with to:=s'.to.map fun l=>l++[v] },l++[v],?_,by simp[h2],by simp;omega⟩;simp[h1]
 · exact⟨s',l,by simp[hk,h1],h2,h3⟩
theorem zey:∀(ks:List Int) (p:PC) (v:Int),(putAll p ks v).st.length=p.st.length
 | [],p,v=>rfl
 |
  k::ks,p,v=>by
  unfold putAll;rw[List.foldl_cons];have:=zey ks (setTo p k.toNat 0 v) v;unfold putAll at this;rw[this];simp[setTo]
theorem zjp:∀(ks:List Int) (p:PC) (v:Int),(putAll p ks v).lp=p.lp
 | [],p,v=>rfl
 |
  k::ks,p,v=>by
  unfold putAll;rw[List.foldl_cons];have:=zjp ks (setTo p k.toNat 0 v) v;unfold putAll at this;rw[this];rfl
theorem zb8:∀(ks:List Int) (p:PC) (v:Int),Keep p (putAll p ks v)
 | [],p,v=>Keep.refl p
 |
  k::ks,p,v=>by
  have:=zb8 ks (setTo p k.toNat 0 v) v;unfold putAll at this ⊢;rw[List.foldl_cons];exact(zjB p k.toNat 0 v).trans this
def LpOk (p:PC):Prop:=∀x∈p.lp,x.2.length≤p.st.length∧∀k∈x.2,0≤k∧zjV p k.toNat 1
theorem LpOk.keep {p q:PC} (h:LpOk p) (hk:Keep p q) (hl:q.lp=p.lp):LpOk q:=fun x hx=>by rw[hl] at hx;exact⟨Wl (h x hx).1 hk.len,fun k hk'=>⟨((h x hx).2 k hk').1,hk.to _ _ ((h x hx).2 k hk').2⟩⟩
theorem zmg (p:PC) (v:Int):zjV (zaA p v) p.st.length 1:=⟨⟨1,0,some [v]⟩,[v],by simp[zaA,addP],rfl,by simp⟩
theorem zAz {l:List (Int × List Int)} (h:l≠[]):(topL l,brkL l)∈l:=by
 unfold topL brkL
 cases hl:l.getLast? with
 | none=>simp at hl;exact absurd hl h
 | some x=>exact W0 hl
def zfg (a b:List (Int × List Int)):Prop:=b.length=a.length∧b.dropLast=a.dropLast∧topL b=topL a
theorem zfg.refl (a:List (Int × List Int)):zfg a a:=⟨rfl,rfl,rfl⟩
theorem zfg.trans {a b c:List (Int × List Int)} (h:zfg a b) (k:zfg b c):zfg a c:=⟨k.1.trans h.1,k.2.1.trans h.2.1,k.2.2.trans h.2.2⟩
theorem zin (l:List (Int × List Int)) (k:Int):zfg l (zkf l k):=by
 unfold zkf
 cases hl:l.getLast? with
 | none=>exact zfg.refl _
 |
  some x =>
  have hne:l≠[]:=by rintro rfl;simp at hl
  refine⟨?_,by simp,?_⟩
  · have:=WM.2 hne;simp;omega
  · unfold topL;simp[hl]
theorem zeA:∀(ks:List Int) (p:PC) (v:Int),(putAll p ks v).lab=p.lab∧(putAll p ks v).got=p.got
 | [],p,v=>⟨rfl,rfl⟩
 |
  k::ks,p,v=>by
  unfold putAll;rw[List.foldl_cons];have:=zeA ks (setTo p k.toNat 0 v) v;unfold putAll at this;exact this
theorem zuv (l:List (Int × Int)) (k v:Int):(setL l k v).length≤l.length+1:=by
 unfold setL
 split<;>simp
structure PostP (n:Nat) (p q:PC):Prop where
 keep:Keep p q
 len:q.st.length+q.lab.length≤p.st.length+p.lab.length+n
 got:q.got.length+p.st.length≤p.got.length+q.st.length
 lp:zfg p.lp q.lp
 ok:LpOk p→LpOk q
theorem PostP.add (p:PC) (s:PSt):PostP 1 p (addP p s):=⟨zbO p s,by simp only[addP,Wd,We];omega,by simp only[addP,Wd,We];omega,zfg.refl _,fun h=>h.keep (zbO p s) rfl⟩
theorem PostP.refl (p:PC):PostP 0 p p:=⟨Keep.refl p,by omega,by omega,zfg.refl _,fun h=>h⟩
theorem PostP.trans {n m:Nat} {p q r:PC} (h:PostP n p q) (k:PostP m q r):PostP (n+m) p r:=⟨h.keep.trans k.keep,by have:=h.len;have:=k.len;omega,by have:=h.got;have:=k.got;omega,h.lp.trans k.lp,fun x=>k.ok (h.ok x)⟩
theorem PostP.mono {n m:Nat} {p q:PC} (h:PostP n p q) (hm:n≤m):PostP m p q:=⟨h.keep,by have:=h.len;omega,h.got,h.lp,h.ok⟩
theorem PostP.putAll (p:PC) (ks:List Int) (v:Int):PostP 0 p (putAll p ks v):=⟨zb8 ks p v,by rw[zey,(zeA ks p v).1];omega,by rw[zey,(zeA ks p v).2];omega,by rw[zjp];exact zfg.refl _,fun h=>h.keep (zb8 ks p v) (zjp ks p v)⟩
theorem PostP.setTo (p:PC) (k i:Nat) (v:Int):PostP 0 p (setTo p k i v):=⟨zjB p k i v,by simp[Go.Ab.setTo],by simp[Go.Ab.setTo],zfg.refl _,fun h=>h.keep (zjB p k i v) rfl⟩
theorem PostP.appTo (p:PC) (k:Nat) (v:Int):PostP 0 p (appTo p k v):=⟨zjC p k v,by simp[Go.Ab.appTo],by simp[Go.Ab.appTo],zfg.refl _,fun h=>h.keep (zjC p k v) rfl⟩
theorem PostP.loop {n:Nat} {p q:PC} {top:Int} (h:PostP n (zbl p top) q):PostP (n+1) p (zdZ q top)∧{ q with lp:=q.lp.dropLast }.lp=p.lp∧q.lp≠[]:=by
 have hlp:q.lp.dropLast=p.lp:=by rw[h.lp.2.1];simp[zbl]
 have hne:q.lp≠[]:=by have:=h.lp.1;simp only[zbl,Wd,We] at this;intro e;rw[e] at this;simp at this
 have hk0:Keep p q:=⟨h.keep.len,fun k n x=>h.keep.to k n x⟩;refine⟨?_,hlp,hne⟩;unfold zdZ;simp only;rw[hlp];have hk1:Keep q { q with lp:=p.lp }:=Keep.of_st rfl;have h1:Keep p (zaA { q with lp:=p.lp } top):=(hk0.trans hk1).trans (zbO _ _);refine⟨h1.trans (zb8 _ _ _),?_,?_,?_,fun ho=>?_⟩
 · rw[zey,(zeA _ _ _).1];have:=h.len;simp only[zbl] at this;simp[zaA,addP];omega
 · rw[zey,(zeA _ _ _).2];have:=h.got;simp only[zbl] at this;simp[zaA,addP];omega
 · rw[zjp];exact zfg.refl _
 · exact ho.keep (h1.trans (zb8 _ _ _)) (zjp _ _ _)
theorem zrI {p:PC} (h:LpOk p) (t:Int):LpOk (zbl p t):=by
 intro x hx
 rcases WE.1 hx with hx|hx
 · exact h x hx
 · rw[Wc.1 hx];exact⟨Wg _,fun k hk=>by cases hk⟩
mutual
theorem zbW:∀(n:Nd) (p:PC),PostP (4 * zav n - 1) p (zaC n p)
 |
  .mk f c l,p=>by
  have hs:zav (.mk f c l)=1+z6 l:=by rw[zav]
  rw[zaC,hs];split
  · exact(zbN l p).mono (by omega)
  split
  · exact(PostP.add p _).mono (by omega)
  split
  · simp only;have h1:PostP 1 p (zaQ p):=PostP.add p _;have h2:=zp4 p.st.length l (zaQ p) [];exact((h1.trans h2).trans (PostP.putAll _ _ _)).mono (by omega)
  split
  · exact(PostP.loop (zbN l (zbl p p.st.length))).1.mono (by omega)
  split
  · simp only;have h1:PostP 1 p (addP p ⟨0,f.block,none⟩):=PostP.add p _;have h2:PostP 2 p (zeG p f.block):=h1.trans (PostP.add _ _);have h3:=(PostP.loop (zbN l (zbl (zeG p f.block) p.st.length))).1;exact((h2.trans h3).trans (PostP.setTo _ _ _ _)).mono (by omega)
  split
  ·
   have h1:PostP 1 p (zaA p 0):=PostP.add p _;refine⟨⟨h1.keep.len,h1.keep.to⟩,by have:=h1.len;simp only at this ⊢;omega,h1.got,zin _ _,fun h x hx=>?_⟩;have hl:LpOk (zaA p 0):=h1.ok h;simp only at hx ⊢;unfold zkf at hx
   cases hg:p.lp.getLast? with
   | none=>rw[hg] at hx;exact hl x hx
   |
    some y =>
    rw[hg] at hx
    rcases WE.1 hx with hx|hx
    · exact hl x (List.dropLast_subset _ hx)
    ·
     rw[Wc.1 hx];have hy:=h y (W0 hg)
     have e:(zaA p 0).st.length=p.st.length+1:=by simp[zaA,addP]
     refine⟨by simp only[Wd,We,e];have:=hy.1;omega,fun k hk=>?_⟩
     rcases WE.1 hk with hk|hk
     · exact⟨(hy.2 k hk).1,h1.keep.to _ _ (hy.2 k hk).2⟩
     · rw[Wc.1 hk];exact⟨by omega,by rw[Wr];exact zmg p 0⟩
  split
  · exact(PostP.add p _).mono (by omega)
  split
  · have h1:PostP 1 p (zaA p 0):=PostP.add p _;exact⟨⟨h1.keep.len,h1.keep.to⟩,by have:=h1.len;simp only at this ⊢;omega,by have:=zuv p.got p.st.length f.label;simp only[zaA,addP,Wd,We] at this ⊢;omega,h1.lp,h1.ok⟩
  split
  · exact⟨Keep.of_st rfl,by have:=zuv p.lab f.label p.st.length;simp only;omega,by simp,zfg.refl _,fun h=>h.keep (Keep.of_st rfl) rfl⟩
  split
  · exact(PostP.add p _).mono (by omega)
  · exact(PostP.refl p).mono (by omega)
theorem zbN:∀(l:List Nd) (p:PC),PostP (4 * z6 l) p (zay l p)
 | [],p=>by rw[zay];exact PostP.refl p
 |
  n::l,p=>by
  rw[zay,z6];exact((zbW n p).trans (zbN l (zaC n p))).mono (by omega)
theorem zp4 (at':Nat):∀(l:List Nd) (p:PC) (ends:List Int),PostP (4 * z6 l) p (brP at' l p ends).1
 | [],p,ends=>by rw[brP];exact PostP.refl p
 |
  n::l,p,ends=>by
  rw[brP,z6];have h1:=(PostP.appTo p at' p.st.length).trans (zbW n (appTo p at' p.st.length));have h2:=h1.trans (PostP.add (zaC n (appTo p at' p.st.length)) ⟨1,0,some [0]⟩)
  have hs:1≤zav n:=by obtain⟨f,c,m⟩:=n;rw[zav];omega
  exact(h2.trans (zp4 at' l (zaA (zaC n (appTo p at' p.st.length)) 0) _)).mono (by omega)
end
theorem zuk {k:Int}:∀(l:List (Int × Int)) (o i:Nat),zf2 (.int .i64 k) (l.mapIdx fun j e=>cMp (j+o) e) i=some ((l.findIdx? fun e=>decide (e.1=k)).map fun j=>(i+j,.int .i64 (l.getD j (0,0)).2))
 | [],o,i=>rfl
 |
  e::l,o,i=>by
  rw[List.mapIdx_cons,List.findIdx?_cons]
  by_cases h:e.1=k
  · subst h;simp only[cMp,zf2,ztR,if_true,decide_true,Wf,Nat.add_zero,List.getD_cons_zero]
  ·
   have ih:=zuk (k:=k) l (o+1) (i+1)
   have e1:zf2 (.int .i64 k) (cMp (0+o) e::l.mapIdx fun j e=>cMp (j+1+o) e) i=zf2 (.int .i64 k) (l.mapIdx fun j e=>cMp (j+1+o) e) (i+1):=by simp only[cMp,zf2,ztR,if_true,decide_eq_false (fun x=>h (Eq.symm x))]
   rw[e1]
   have e2:(l.mapIdx fun j e=>cMp (j+1+o) e)=l.mapIdx fun j e=>cMp (j+(o+1)) e:=by
    congr 1
    funext j e
    rw[show j+1+o=j+(o+1) by omega]
   rw[e2,ih,if_neg (by simpa using h)]
   cases l.findIdx? fun e=>decide (e.1=k) with
   | none=>rfl
   |
    some j =>
    simp only[Wf,List.getD_cons_succ];rw[show i+1+j=i+(j+1) by omega]
theorem zr6 {k:Int} (l:List (Int × Int)):zf2 (.int .i64 k) (l.mapIdx cMp) 0=some ((l.findIdx? fun e=>decide (e.1=k)).map fun j=>(j,.int .i64 (l.getD j (0,0)).2)):=by have h:=zuk (k:=k) l 0 0;simp only[Nat.zero_add,Nat.add_zero] at h;exact h
theorem zq8 {l:List (Int × Int)} {k v:Int} {r:Nat} {H:AH} {nx:Nat} (hl:l.length≤1000000):zwa (some .i64) r 0 (.int .i64 k) (.int .i64 v) (some (.row 3 (mpC l) 0)) H nx=⟨True,True,.undef,H.set r 0 (.row 3 (mpC (setL l k v)) 0),nx⟩:=by
 unfold mpC zwa;simp only;rw[zr6];unfold setL
 cases hf:l.findIdx? fun e=>decide (e.1=k) with
 |
  none =>
  simp only[Option.map_none,msTo,zfa,true_and,ORes.mk.injEq];refine⟨by simp;omega,?_,trivial⟩
  congr 1
  simp[WX,cMp]
 |
  some j =>
  simp only[Wf,msTo,zfa,true_and,ORes.mk.injEq];have hj:j < l.length:=(List.findIdx?_eq_some_iff_getElem.1 hf).1;refine⟨?_,trivial⟩
  congr 1
  simp only[List.length_set,AObj.row.injEq,List.cons.injEq,true_and,and_true];apply Wv;intro i;simp only[WN,WB,W3]
  by_cases hi:j=i
  · subst hi;simp[hj,cMp,Wh]
  · simp[hi]
theorem zk7 {T:AH} {N:Nat} {x:AObj} (h:T.look N=none):∀r o,T.look r=some o→(T.put N x).look r=some o:=by
 intro r o hr;rw[AH.look_put];split
 · rename_i e;rw[e,h] at hr;cases hr
 · exact hr
theorem zwW {M:Nat} {p:PC} {γ:Gn} {T T':AH} (h:∀r o,T.look r=some o→T'.look r=some o):∀r o,(cH M p γ T).look r=some o→(cH M p γ T').look r=some o :=
 zj (zj (zj (zj (zj (zj (zj (zj h)))))))
theorem zcQ {B nx M:Nat} {p:PC} {γ:Gn} {T:AH} {N:Nat} {o:AObj} {K:Kn} {v:AV} (hB:B≤nx) (hT:TailOk N T) (hv:K.get 0=v):Ent B K (cH M p γ (T.put N o)) nx [(0,v)] (cH M p γ T) nx :=
 Ent.forget hB (Wa _) (zwW (zk7 (hT.none (Wa _)))) (fun i=>by
  cases i with
  | zero=>exact .inr hv.symm
  | succ i=>exact .inl rfl)
theorem TailOk.put1 {N x:Nat} {T:AH} (hT:TailOk N T) (h:N < x):∀o:AObj,(T.put N o).look x=Option.none:=fun o=>by rw[AH.look_put,if_neg (by omega)];exact hT.none (by omega)
theorem TailOk.put2 {N x y:Nat} {T:AH} (hT:TailOk N T) (h:N < y) (h2:y < x):∀o o':AObj,((T.put N o).put y o').look x=Option.none:=fun o o'=>by rw[AH.look_put,if_neg (by omega),AH.look_put,if_neg (by omega)];exact hT.none (by omega)
theorem zni {β:Type} {f:Nat→β} {k:Nat}:updF f k (f k)=f:=by
 funext i
 unfold updF;split
 · rename_i h;rw[h]
 · rfl
theorem zwV {M n:Nat} {xl:Nat→List (Int × AV)} {gx:Nat→Nat} {t:Int} {x:AV}:(fi cX M xl gx).set n ([[.int .i64 t,x]],gx n)=fi cX M (updF xl n [(t,x)]) gx:=by have h:=zya (c:=cX) (n:=M) (k:=n) (g:=gx n) (ll:=xl) (gs:=gx) (l:=[(t,x)]);rw[zni] at h;exact h
theorem zyl {M n g:Nat} {bl:Nat→List Int} {gb:Nat→Nat} {l:List Int} {k:Int}:(fi cI M bl gb).set n (l.map cI++[[.int .i64 k]],g)=fi cI M (updF bl n (l++[k])) (updF gb n g):=by rw[←zya,List.map_append,List.map_singleton]
theorem zvz {l:List (Int × List Int)} {k:Int} {n:Nat} (hn:l.length=n+1):zkf l k=l.set n (l[n].1,l[n].2++[k]):=by
 unfold zkf;rw[WJ,show l.length - 1=n by omega,WA (by omega)];simp only;apply Wv;intro i
 have e:l.length - 1=n:=by omega
 rw[WN,WO,List.length_dropLast]
 by_cases hi:n=i
 · subst hi;rw[if_neg (show ¬n < l.length - 1 by omega),if_pos rfl,if_pos (show n < l.length by omega),e];simp
 ·
  rw[if_neg hi]
  by_cases h2:i < n
  · rw[if_pos (show i < l.length - 1 by omega),List.getElem?_dropLast,if_pos (show i < l.length - 1 by omega)]
  · rw[if_neg (show ¬i < l.length - 1 by omega),W5 (by simp;omega),W5 (by omega)]
def brkP (p:PC):PC:={ zaA p 0 with lp:=zkf p.lp p.st.length }
def brkG (γ:Gn) (k n:Nat) (top:Int) (l:List Int):Gn:={ zhX γ k [0] with xl:=updF γ.xl n [(top,.own 7 (n+1) (γ.gb n+1) 0 (l.length+1))],bl:=updF γ.bl n (l++[(k:Int)]),gb:=updF γ.gb n (γ.gb n+1) }
theorem zAG {p:PC} {γ:Gn} {n:Nat} (hok:OkC (zaA p 0) (zhX γ p.st.length [0])) (hn:p.lp.length=n+1):OkC (brkP p) (brkG γ p.st.length n p.lp[n].1 p.lp[n].2):=by
 refine⟨hok.to,fun d hd=>?_,hok.s2,fun d x hx=>?_⟩
 rotate_left
 ·
  simp only[brkG] at hx
  by_cases hd:d=n
  · subst hd;rw[zbh] at hx;rw[Wc.1 hx];rfl
  · rw[zdm hd] at hx;exact hok.xl d x hx
 have hd':d < p.lp.length:=by have h:d < (zkf p.lp p.st.length).length:=hd;rw[(zin _ _).1] at h;exact h
 have hl:(brkP p).lp=p.lp.set n (p.lp[n].1,p.lp[n].2++[(p.st.length:Int)]):=zvz hn
 have hg:(brkP p).lp[d]=(p.lp.set n (p.lp[n].1,p.lp[n].2++[(p.st.length:Int)]))[d]'(by simpa using hd'):=by simp only[hl]
 rw[hg,List.getElem_set]
 by_cases hdn:n=d
 · subst hdn;simp only[if_true,brkG,zbh];exact⟨by simp,by simp⟩
 · rw[if_neg hdn];have h:=hok.lp d hd';simp only[brkG,zdm (Ne.symm hdn)];exact h
theorem brk_H {M:Nat} {p:PC} {γ:Gn} {T:AH} {n:Nat} {top:Int} {l:List Int}:cH M (brkP p) (brkG γ p.st.length n top l) T =
  (0,.row 4 [[.own 1 0 (γ.gs+1) 0 (zaA p 0).st.length,.own 2 0 γ.gl 0 p.lp.length,.mp 3 0,.mp 4 0]] 0)::(1,.row 3 (stC (updF γ.gt p.st.length (γ.gt p.st.length+1)) (zaA p 0).st) (γ.gs+1))::(2,.row 1 (lpC γ.gx p.lp.length++γ.s2) γ.gl)::(3,.row 3 (mpC p.lab) 0)::(4,.row 3 (mpC p.got) 0) ::
  (5,.fam 1 (fi cI M (updF γ.tl p.st.length [0]) (updF γ.gt p.st.length (γ.gt p.st.length+1))))::(6,.fam 2 (fi cX M (updF γ.xl n [(top,.own 7 (n+1) (γ.gb n+1) 0 (l.length+1))]) γ.gx))::(7,.fam 1 (fi cI M (updF γ.bl n (l++[(p.st.length:Int)])) (updF γ.gb n (γ.gb n+1))))::T:=by
 unfold cH brkP brkG zhX;simp only[(zin p.lp p.st.length).1];rfl
theorem zhv {a0 a1 a2 a3 a4 a5 a6 a7:AObj} {T:AH} {x:Nat} (hx:8≤x):AH.look ((0,a0)::(1,a1)::(2,a2)::(3,a3)::(4,a4)::(5,a5)::(6,a6)::(7,a7)::T) x=T.look x:=by simp only[AH.look,zH (show 0≠x by omega),zH (show 1≠x by omega),zH (show 2≠x by omega),zH (show 3≠x by omega),zH (show 4≠x by omega),zH (show 5≠x by omega),zH (show 6≠x by omega),zH (show 7≠x by omega),cond_false]
theorem zyf {B nx M N N2 n:Nat} {a0 a1 a2 a3 a4 a5 o o':AObj} {K:Kn} {v:AV} {T:AH} {xl:Nat→List (Int × AV)} {gx gb:Nat→Nat} {bl:Nat→List Int} {top k:Int} (hB:B≤nx) (hT:TailOk N T) (hN:N < N2) (hn:n < M) (hv:K.get 0=v) (hx:xl n=[(top,.nilsl)]) :
  Ent B K ((0,a0)::(1,a1)::(2,a2)::(3,a3)::(4,a4)::(5,a5)::(6,.fam 2 (fi cX M (updF xl n [(top,.own (N2+1) 0 0 0 1)]) gx))::(7,.fam 1 (fi cI M bl gb))::((T.put N o).put N2 o').put (N2+1) (.row 1 [[.int .i64 k]] 0)) nx
   [(0,v)] ((0,a0)::(1,a1)::(2,a2)::(3,a3)::(4,a4)::(5,a5)::(6,.fam 2 (fi cX M (updF xl n [(top,.own 7 (n+1) (gb n+1) 0 1)]) gx))::(7,.fam 1 (fi cI M (updF bl n [k]) (updF gb n (gb n+1))))::T) nx:=by
 have h8:=hT.eight;refine Ent.adoptF (c:=cI) (F:=7) (k:=n) (m:=M) (sz:=1) (ll:=bl) (gs:=gb) (l:=[k]) (some (N2+1)) hB hn rfl ?_ (by simp) ?_ ⟨by rw[hv];exact .same _,trivial⟩
 · rintro x ⟨rfl⟩;refine⟨by omega,?_⟩;rw[zhv (by omega)];exact zK
 ·
  intro x o2 h
  match x with
  | 0=>cases h;exact⟨fun m e=>by cases e;omega,.inr ⟨by omega,_,rfl,.same _⟩⟩
  | 1=>cases h;exact⟨fun m e=>by cases e;omega,.inr ⟨by omega,_,rfl,.same _⟩⟩
  | 2=>cases h;exact⟨fun m e=>by cases e;omega,.inr ⟨by omega,_,rfl,.same _⟩⟩
  | 3=>cases h;exact⟨fun m e=>by cases e;omega,.inr ⟨by omega,_,rfl,.same _⟩⟩
  | 4=>cases h;exact⟨fun m e=>by cases e;omega,.inr ⟨by omega,_,rfl,.same _⟩⟩
  | 5=>cases h;exact⟨fun m e=>by cases e;omega,.inr ⟨by omega,_,rfl,.same _⟩⟩
  |
   6 =>
   cases h;refine⟨fun m e=>by cases e;omega,.inr ⟨by omega,_,rfl,?_⟩⟩
   have hu:updF xl n [(top,.own 7 (n+1) (gb n+1) 0 1)]=updF (updF xl n [(top,.own (N2+1) 0 0 0 1)]) n [(top,.own 7 (n+1) (gb n+1) 0 1)]:=by
    funext i
    unfold updF
    split<;>rfl
   rw[hu];refine ObjA.updF ?_;rw[zbh];exact RowA.cons ⟨.same _,.own _ _ _ rfl,trivial⟩ (RowA.refl _)
  | 7=>cases h;exact⟨fun m e=>by cases e;omega,.inl ⟨rfl,rfl⟩⟩
  |
   x+8 =>
   rw[zhv (by omega)] at h;have hx:=hT.num _ _ h;refine⟨fun m e=>by cases e;omega,.inr ⟨by omega,o2,?_,.same _⟩⟩;rw[zhv (by omega),AH.look_put,if_neg (by omega),AH.look_put,if_neg (by omega),AH.look_put,if_neg (by omega)];exact h
theorem zz0 {B nx N N2:Nat} {a0 a1 a2 a3 a4 a5 a6 a7 o o':AObj} {K:Kn} {v:AV} {T:AH} (hB:B≤nx) (hT:TailOk N T) (hN:N < N2) (hv:K.get 0=v) :
  Ent B K ((0,a0)::(1,a1)::(2,a2)::(3,a3)::(4,a4)::(5,a5)::(6,a6)::(7,a7)::(T.put N o).put N2 o') nx [(0,v)] ((0,a0)::(1,a1)::(2,a2)::(3,a3)::(4,a4)::(5,a5)::(6,a6)::(7,a7)::T) nx :=
 Ent.forget hB (Wa _) (zj (zj (zj (zj (zj (zj (zj (zj (fun r x h=>by
  have:=hT.num _ _ h;rw[AH.look_put,if_neg (by omega),AH.look_put,if_neg (by omega)]
  exact h)))))))))
  (fun i=>by
   cases i with
   | zero=>exact .inr hv.symm
   | succ i=>exact .inl rfl)
def zjR (n:Nat) (γ γ':Gn):Prop:=∀d,d < n→γ'.gx d=γ.gx d
theorem zjR.trans {n m:Nat} {a b c:Gn} (h:zjR n a b) (k:zjR m b c) (e:n≤m):zjR n a c:=fun d hd=>(k d (by omega)).trans (h d hd)
def zec (M:Nat) (e:Nd):Prop:=∀(p:PC) (γ:Gn) (T:AH) (N:Nat),OkC p γ→LpOk p→TailOk N T→p.st.length+p.lab.length+4 * zav e≤M→p.lp.length+zav e≤M→p.got.length≤p.st.length→zdy e (!p.lp.isEmpty)=false →
 z7 Tryz.prog zbU [.ptr 0 0 0 0 0,.agg (encN e)] (cH M p γ T) N (fun _ H nx=>N≤nx∧∃γ',OkC (zaC e p) γ'∧zjR p.lp.length γ γ'∧H=cH M (zaC e p) γ' T)
def zqK (M:Nat) (l:List Nd):Prop:=∀(p:PC) (γ:Gn) (T:AH) (N:Nat),OkC p γ→LpOk p→TailOk N T→p.st.length+p.lab.length+4 * z6 l≤M→p.lp.length+z6 l≤M→p.got.length≤p.st.length→zaM l (!p.lp.isEmpty)=false →
 z7 Tryz.prog zdj [.ptr 0 0 0 0 0,encL 5 encN l] (cH M p γ T) N (fun _ H nx=>N≤nx∧∃γ',OkC (zay l p) γ'∧zjR p.lp.length γ γ'∧H=cH M (zay l p) γ' T)
def BrOk (M:Nat) (l:List Nd):Prop:=∀(p:PC) (γ:Gn) (T:AH) (N:Nat),OkC p γ→LpOk p→TailOk N T→p.st.length+p.lab.length+4 * z6 l+1≤M→p.lp.length+z6 l≤M→p.got.length≤p.st.length→zaM l (!p.lp.isEmpty)=false →
 z7 Tryz.prog zcH [.ptr 0 0 0 0 0,encL 5 encN l] (cH M p γ T) N (fun _ H nx=>N≤nx∧∃γ',OkC (zqb l p) γ'∧zjR p.lp.length γ γ'∧H=cH M (zqb l p) γ' T)
def zqs (M:Nat) (l:List Nd):Prop:=∀(p:PC) (γ:Gn) (T:AH) (N:Nat) (b:Option Int) (fv:AV),OkC p γ→LpOk p→TailOk N T→p.st.length+p.lab.length+4 * z6 l+3≤M→p.lp.length+z6 l+1≤M→p.got.length≤p.st.length→zaM l true=false →
 (match b with|none=>fv=.fn (.func zbA) []|some b=>∃rc c,fv=.fn (.func zbB) [.ptr rc 0 0 0 0,.iptr 5 c]∧T.look rc=some (.row 1 [[.ptr 0 0 0 0 0]] 0)∧c 1=.int .i64 b) →
 z7 Tryz.prog zcN [.ptr 0 0 0 0 0,encL 5 encN l,fv] (cH M p γ T) N (fun _ H nx=>N≤nx∧∃γ',OkC (zrc b l p) γ'∧zjR p.lp.length γ γ'∧H=cH M (zrc b l p) γ' T)
theorem zcV (f:NdF) (c:List Ex) (l:List Nd):encN (.mk f c l)=[.int .i64 f.kind,.int .i64 f.block,.int .i64 f.label,encL 5 encX c,encL 5 encN l]:=zex f c l
theorem Qq {p q:Prop}(k:q)(h:Im q p:=by(repeat first|simp(disch:=try exact dis1) only[evD,Nat.reduceBEq,Nat.reduceAdd,Nat.reduceLeDiff,zG] | ((with_reducible apply Im.i);intro _) | ((with_reducible apply Im.a);omega));exact Im.r):p:=h k
theorem zBc (M:Nat) (hM:M≤1000000) (f:NdF) (c:List Ex) (l:List Nd) (hall:zqK M l) (hk:f.kind=1):zec M (.mk f c l):=by
 intro p γ T N hok hlp hT hl1 hl2 hgot hst;refine z8 (fn_x zN rfl ?_);rw[zcL];rw[zav] at hl1 hl2;unfold zdy at hst;obtain⟨kd,bl,lb⟩:=f;simp only at hst hk ⊢;unfold zI;have hB:=hBig;have h8:=hT.eight;obtain⟨n0,n1,n2,n3,n4,n5,n6,n7⟩:=ne8 hT.eight;have tN:T.look N=none:=hT.none (Wa _);have hT1:=hT.put 1 [[.ptr 0 0 0 0 0]] (fun c hc=>by rw[Wc.1 hc];simp[AV.lt0]);rw[zcV];simp only[cH]
 have hs:¬(kd=7∨kd=8)→zaM l (!p.lp.isEmpty||decide (kd=4)||decide (kd=5))=false:=fun h=>by rw[if_neg (fun e=>h e.1)] at hst;exact hst
 have hne:(kd=7∨kd=8)→p.lp≠[]:=fun h e=>by rw[e,if_pos ⟨h,rfl⟩] at hst;cases hst
 clear hst;rw[if_pos (show kd=1 by omega)]
 have hs':zaM l (!p.lp.isEmpty)=false:=by have:=hs (by omega);rwa [dF (by omega),dF (by omega),Wn,Wn] at this
 (repeat first|simp(disch:=try exact dis1) only[evD,Nat.reduceBEq,Nat.reduceAdd,Nat.reduceLeDiff,dT,dF,fldP,n0,n1,n2,n3,n4,n5,n6,n7,tN,zC,zK]|with_reducible first|intro _|refine aJ ?_)
 refine(hall p γ (T.put N (.row 1 [[.ptr 0 0 0 0 0]] 0)) (N+1) hok hlp hT1 (by omega) (by omega) (by omega) hs').mono ?_;rintro x H N2 ⟨hN2,γ2,ok2,sx,rfl⟩
 (refine Qq ?_;intros)
 exact⟨_,_,N2,zcQ (by omega) hT rfl,by omega,_,ok2,sx,rfl⟩
theorem zA3 (M:Nat) (hM:M≤1000000) (f:NdF) (c:List Ex) (l:List Nd) (hk:f.kind=2):zec M (.mk f c l):=by
 intro p γ T N hok hlp hT hl1 hl2 hgot hst;refine z8 (fn_x zN rfl ?_);rw[zcL];rw[zav] at hl1 hl2;unfold zdy at hst;obtain⟨kd,bl,lb⟩:=f;simp only at hst hk ⊢;unfold zI;have hB:=hBig;have h8:=hT.eight;obtain⟨n0,n1,n2,n3,n4,n5,n6,n7⟩:=ne8 hT.eight;have tN:T.look N=none:=hT.none (Wa _);have hT1:=hT.put 1 [[.ptr 0 0 0 0 0]] (fun c hc=>by rw[Wc.1 hc];simp[AV.lt0]);rw[zcV];simp only[cH]
 have hs:¬(kd=7∨kd=8)→zaM l (!p.lp.isEmpty||decide (kd=4)||decide (kd=5))=false:=fun h=>by rw[if_neg (fun e=>h e.1)] at hst;exact hst
 have hne:(kd=7∨kd=8)→p.lp≠[]:=fun h e=>by rw[e,if_pos ⟨h,rfl⟩] at hst;cases hst
 clear hst;rw[if_neg (show ¬kd=1 by omega)];rw[if_pos (show kd=2 by omega)]
 (repeat first|simp(disch:=try exact dis1) only[evD,Nat.reduceBEq,Nat.reduceAdd,Nat.reduceLeDiff,dT,dF,fldP,n0,n1,n2,n3,n4,n5,n6,n7,tN,zC,zK]|with_reducible first|intro _|refine aJ ?_)
 refine(zcR M p γ (T.put N (.row 1 [[.ptr 0 0 0 0 0]] 0)) (N+1) 0 bl hok hT1 (by omega)).mono ?_;rintro x H N2 ⟨hN2,rfl,ok2,rfl⟩
 (refine Qq ?_;intros)
 exact⟨_,_,N2,zcQ (by omega) hT rfl,by omega,_,ok2,fun _ _=>rfl,rfl⟩
theorem zz2 (M:Nat) (hM:M≤1000000) (f:NdF) (c:List Ex) (l:List Nd) (hk:f.kind=11):zec M (.mk f c l):=by
 intro p γ T N hok hlp hT hl1 hl2 hgot hst;refine z8 (fn_x zN rfl ?_);rw[zcL];rw[zav] at hl1 hl2;unfold zdy at hst;obtain⟨kd,bl,lb⟩:=f;simp only at hst hk ⊢;unfold zI;have hB:=hBig;have h8:=hT.eight;obtain⟨n0,n1,n2,n3,n4,n5,n6,n7⟩:=ne8 hT.eight;have tN:T.look N=none:=hT.none (Wa _);have hT1:=hT.put 1 [[.ptr 0 0 0 0 0]] (fun c hc=>by rw[Wc.1 hc];simp[AV.lt0]);rw[zcV];simp only[cH]
 have hs:¬(kd=7∨kd=8)→zaM l (!p.lp.isEmpty||decide (kd=4)||decide (kd=5))=false:=fun h=>by rw[if_neg (fun e=>h e.1)] at hst;exact hst
 have hne:(kd=7∨kd=8)→p.lp≠[]:=fun h e=>by rw[e,if_pos ⟨h,rfl⟩] at hst;cases hst
 clear hst;rw[if_neg (show ¬kd=1 by omega)];rw[if_neg (show ¬kd=2 by omega)];rw[if_neg (show ¬(kd=3∨kd=6) by omega)];rw[if_neg (show ¬kd=4 by omega)];rw[if_neg (show ¬kd=5 by omega)];rw[if_neg (show ¬kd=7 by omega)];rw[if_neg (show ¬kd=8 by omega)];rw[if_neg (show ¬kd=9 by omega)];rw[if_neg (show ¬kd=10 by omega)];rw[if_pos (show (kd=11∨kd=12) by omega)]
 (repeat first|simp(disch:=try exact dis1) only[evD,Nat.reduceBEq,Nat.reduceAdd,Nat.reduceLeDiff,dT,dF,fldP,n0,n1,n2,n3,n4,n5,n6,n7,tN,zC,zK]|with_reducible first|intro _|refine aJ ?_)
 refine(zcR M p γ (T.put N (.row 1 [[.ptr 0 0 0 0 0]] 0)) (N+1) 2 0 hok hT1 (by omega)).mono ?_;rintro x H N2 ⟨hN2,rfl,ok2,rfl⟩
 (refine Qq ?_;intros)
 exact⟨_,_,N2,zcQ (by omega) hT rfl,by omega,_,ok2,fun _ _=>rfl,rfl⟩
theorem zAa (M:Nat) (hM:M≤1000000) (f:NdF) (c:List Ex) (l:List Nd) (hk:f.kind=12):zec M (.mk f c l):=by
 intro p γ T N hok hlp hT hl1 hl2 hgot hst;refine z8 (fn_x zN rfl ?_);rw[zcL];rw[zav] at hl1 hl2;unfold zdy at hst;obtain⟨kd,bl,lb⟩:=f;simp only at hst hk ⊢;unfold zI;have hB:=hBig;have h8:=hT.eight;obtain⟨n0,n1,n2,n3,n4,n5,n6,n7⟩:=ne8 hT.eight;have tN:T.look N=none:=hT.none (Wa _);have hT1:=hT.put 1 [[.ptr 0 0 0 0 0]] (fun c hc=>by rw[Wc.1 hc];simp[AV.lt0]);rw[zcV];simp only[cH]
 have hs:¬(kd=7∨kd=8)→zaM l (!p.lp.isEmpty||decide (kd=4)||decide (kd=5))=false:=fun h=>by rw[if_neg (fun e=>h e.1)] at hst;exact hst
 have hne:(kd=7∨kd=8)→p.lp≠[]:=fun h e=>by rw[e,if_pos ⟨h,rfl⟩] at hst;cases hst
 clear hst;rw[if_neg (show ¬kd=1 by omega)];rw[if_neg (show ¬kd=2 by omega)];rw[if_neg (show ¬(kd=3∨kd=6) by omega)];rw[if_neg (show ¬kd=4 by omega)];rw[if_neg (show ¬kd=5 by omega)];rw[if_neg (show ¬kd=7 by omega)];rw[if_neg (show ¬kd=8 by omega)];rw[if_neg (show ¬kd=9 by omega)];rw[if_neg (show ¬kd=10 by omega)];rw[if_pos (show (kd=11∨kd=12) by omega)]
 (repeat first|simp(disch:=try exact dis1) only[evD,Nat.reduceBEq,Nat.reduceAdd,Nat.reduceLeDiff,dT,dF,fldP,n0,n1,n2,n3,n4,n5,n6,n7,tN,zC,zK]|with_reducible first|intro _|refine aJ ?_)
 refine(zcR M p γ (T.put N (.row 1 [[.ptr 0 0 0 0 0]] 0)) (N+1) 2 0 hok hT1 (by omega)).mono ?_;rintro x H N2 ⟨hN2,rfl,ok2,rfl⟩
 (refine Qq ?_;intros)
 exact⟨_,_,N2,zcQ (by omega) hT rfl,by omega,_,ok2,fun _ _=>rfl,rfl⟩
theorem zA9 (M:Nat) (hM:M≤1000000) (f:NdF) (c:List Ex) (l:List Nd) (hbr:BrOk M l) (hk:f.kind=3):zec M (.mk f c l):=by
 intro p γ T N hok hlp hT hl1 hl2 hgot hst;refine z8 (fn_x zN rfl ?_);rw[zcL];rw[zav] at hl1 hl2;unfold zdy at hst;obtain⟨kd,bl,lb⟩:=f;simp only at hst hk ⊢;unfold zI;have hB:=hBig;have h8:=hT.eight;obtain⟨n0,n1,n2,n3,n4,n5,n6,n7⟩:=ne8 hT.eight;have tN:T.look N=none:=hT.none (Wa _);have hT1:=hT.put 1 [[.ptr 0 0 0 0 0]] (fun c hc=>by rw[Wc.1 hc];simp[AV.lt0]);rw[zcV];simp only[cH]
 have hs:¬(kd=7∨kd=8)→zaM l (!p.lp.isEmpty||decide (kd=4)||decide (kd=5))=false:=fun h=>by rw[if_neg (fun e=>h e.1)] at hst;exact hst
 have hne:(kd=7∨kd=8)→p.lp≠[]:=fun h e=>by rw[e,if_pos ⟨h,rfl⟩] at hst;cases hst
 clear hst;rw[if_neg (show ¬kd=1 by omega)];rw[if_neg (show ¬kd=2 by omega)];rw[if_pos (show (kd=3∨kd=6) by omega)]
 have hs':zaM l (!p.lp.isEmpty)=false:=by have:=hs (by omega);rwa [dF (by omega),dF (by omega),Wn,Wn] at this
 (repeat first|simp(disch:=try exact dis1) only[evD,Nat.reduceBEq,Nat.reduceAdd,Nat.reduceLeDiff,dT,dF,fldP,n0,n1,n2,n3,n4,n5,n6,n7,tN,zC,zK]|with_reducible first|intro _|refine aJ ?_)
 refine(hbr p γ (T.put N (.row 1 [[.ptr 0 0 0 0 0]] 0)) (N+1) hok hlp hT1 (by omega) (by omega) (by omega) hs').mono ?_;rintro x H N2 ⟨hN2,γ2,ok2,sx,rfl⟩
 (refine Qq ?_;intros)
 exact⟨_,_,N2,zcQ (by omega) hT rfl,by omega,_,ok2,sx,rfl⟩
theorem zBm (M:Nat) (hM:M≤1000000) (f:NdF) (c:List Ex) (l:List Nd) (hbr:BrOk M l) (hk:f.kind=6):zec M (.mk f c l):=by
 intro p γ T N hok hlp hT hl1 hl2 hgot hst;refine z8 (fn_x zN rfl ?_);rw[zcL];rw[zav] at hl1 hl2;unfold zdy at hst;obtain⟨kd,bl,lb⟩:=f;simp only at hst hk ⊢;unfold zI;have hB:=hBig;have h8:=hT.eight;obtain⟨n0,n1,n2,n3,n4,n5,n6,n7⟩:=ne8 hT.eight;have tN:T.look N=none:=hT.none (Wa _);have hT1:=hT.put 1 [[.ptr 0 0 0 0 0]] (fun c hc=>by rw[Wc.1 hc];simp[AV.lt0]);rw[zcV];simp only[cH]
 have hs:¬(kd=7∨kd=8)→zaM l (!p.lp.isEmpty||decide (kd=4)||decide (kd=5))=false:=fun h=>by rw[if_neg (fun e=>h e.1)] at hst;exact hst
 have hne:(kd=7∨kd=8)→p.lp≠[]:=fun h e=>by rw[e,if_pos ⟨h,rfl⟩] at hst;cases hst
 clear hst;rw[if_neg (show ¬kd=1 by omega)];rw[if_neg (show ¬kd=2 by omega)];rw[if_pos (show (kd=3∨kd=6) by omega)]
 have hs':zaM l (!p.lp.isEmpty)=false:=by have:=hs (by omega);rwa [dF (by omega),dF (by omega),Wn,Wn] at this
 (repeat first|simp(disch:=try exact dis1) only[evD,Nat.reduceBEq,Nat.reduceAdd,Nat.reduceLeDiff,dT,dF,fldP,n0,n1,n2,n3,n4,n5,n6,n7,tN,zC,zK]|with_reducible first|intro _|refine aJ ?_)
 refine(hbr p γ (T.put N (.row 1 [[.ptr 0 0 0 0 0]] 0)) (N+1) hok hlp hT1 (by omega) (by omega) (by omega) hs').mono ?_;rintro x H N2 ⟨hN2,γ2,ok2,sx,rfl⟩
 (refine Qq ?_;intros)
 exact⟨_,_,N2,zcQ (by omega) hT rfl,by omega,_,ok2,sx,rfl⟩
theorem zBx (M:Nat) (hM:M≤1000000) (f:NdF) (c:List Ex) (l:List Nd) (hlo:zqs M l) (hk:f.kind=4):zec M (.mk f c l):=by
 intro p γ T N hok hlp hT hl1 hl2 hgot hst;refine z8 (fn_x zN rfl ?_);rw[zcL];rw[zav] at hl1 hl2;unfold zdy at hst;obtain⟨kd,bl,lb⟩:=f;simp only at hst hk ⊢;unfold zI;have hB:=hBig;have h8:=hT.eight;obtain⟨n0,n1,n2,n3,n4,n5,n6,n7⟩:=ne8 hT.eight;have tN:T.look N=none:=hT.none (Wa _);have hT1:=hT.put 1 [[.ptr 0 0 0 0 0]] (fun c hc=>by rw[Wc.1 hc];simp[AV.lt0]);rw[zcV];simp only[cH]
 have hs:¬(kd=7∨kd=8)→zaM l (!p.lp.isEmpty||decide (kd=4)||decide (kd=5))=false:=fun h=>by rw[if_neg (fun e=>h e.1)] at hst;exact hst
 have hne:(kd=7∨kd=8)→p.lp≠[]:=fun h e=>by rw[e,if_pos ⟨h,rfl⟩] at hst;cases hst
 clear hst;rw[if_neg (show ¬kd=1 by omega)];rw[if_neg (show ¬kd=2 by omega)];rw[if_neg (show ¬(kd=3∨kd=6) by omega)];rw[if_pos (show kd=4 by omega)]
 have hs':zaM l true=false:=by have:=hs (by omega);rwa [dT hk,dF (by omega),Bool.or_true,Wn] at this
 (repeat first|simp(disch:=try exact dis1) only[evD,Nat.reduceBEq,Nat.reduceAdd,Nat.reduceLeDiff,dT,dF,fldP,n0,n1,n2,n3,n4,n5,n6,n7,tN,zC,zK]|with_reducible first|intro _|refine aJ ?_)
 refine(hlo p γ (T.put N (.row 1 [[.ptr 0 0 0 0 0]] 0)) (N+1) none _ hok hlp hT1 (by omega) (by omega) (by omega) hs' rfl).mono ?_;rintro x H N2 ⟨hN2,γ2,ok2,sx,rfl⟩
 (refine Qq ?_;intros)
 exact⟨_,_,N2,zcQ (by omega) hT rfl,by omega,_,ok2,sx,rfl⟩
theorem zAT (M:Nat) (hM:M≤1000000) (f:NdF) (c:List Ex) (l:List Nd) (hlo:zqs M l) (hk:f.kind=5):zec M (.mk f c l):=by
 intro p γ T N hok hlp hT hl1 hl2 hgot hst;refine z8 (fn_x zN rfl ?_);rw[zcL];rw[zav] at hl1 hl2;unfold zdy at hst;obtain⟨kd,bl,lb⟩:=f;simp only at hst hk ⊢;unfold zI;have hB:=hBig;have h8:=hT.eight;obtain⟨n0,n1,n2,n3,n4,n5,n6,n7⟩:=ne8 hT.eight;have tN:T.look N=none:=hT.none (Wa _);have hT1:=hT.put 1 [[.ptr 0 0 0 0 0]] (fun c hc=>by rw[Wc.1 hc];simp[AV.lt0]);rw[zcV];simp only[cH]
 have hs:¬(kd=7∨kd=8)→zaM l (!p.lp.isEmpty||decide (kd=4)||decide (kd=5))=false:=fun h=>by rw[if_neg (fun e=>h e.1)] at hst;exact hst
 have hne:(kd=7∨kd=8)→p.lp≠[]:=fun h e=>by rw[e,if_pos ⟨h,rfl⟩] at hst;cases hst
 clear hst;rw[if_neg (show ¬kd=1 by omega)];rw[if_neg (show ¬kd=2 by omega)];rw[if_neg (show ¬(kd=3∨kd=6) by omega)];rw[if_neg (show ¬kd=4 by omega)];rw[if_pos (show kd=5 by omega)]
 have hs':zaM l true=false:=by have:=hs (by omega);rwa [dT hk,Bool.or_true] at this
 (repeat first|simp(disch:=try exact dis1) only[evD,Nat.reduceBEq,Nat.reduceAdd,Nat.reduceLeDiff,dT,dF,fldP,n0,n1,n2,n3,n4,n5,n6,n7,tN,zC,zK]|with_reducible first|intro _|refine aJ ?_)
 refine(hlo p γ (T.put N (.row 1 [[.ptr 0 0 0 0 0]] 0)) (N+1) (some bl) _ hok hlp hT1 (by omega) (by omega) (by omega) hs' ⟨_,_,rfl,zK,rfl⟩).mono ?_;rintro x H N2 ⟨hN2,γ2,ok2,sx,rfl⟩
 (refine Qq ?_;intros)
 exact⟨_,_,N2,zcQ (by omega) hT rfl,by omega,_,ok2,sx,rfl⟩
theorem zze (M:Nat) (hM:M≤1000000) (f:NdF) (c:List Ex) (l:List Nd) (hk:f.kind=7):zec M (.mk f c l):=by
 intro p γ T N hok hlp hT hl1 hl2 hgot hst;refine z8 (fn_x zN rfl ?_);rw[zcL];rw[zav] at hl1 hl2;unfold zdy at hst;obtain⟨kd,bl,lb⟩:=f;simp only at hst hk ⊢;unfold zI;have hB:=hBig;have h8:=hT.eight;obtain⟨n0,n1,n2,n3,n4,n5,n6,n7⟩:=ne8 hT.eight;have tN:T.look N=none:=hT.none (Wa _);have hT1:=hT.put 1 [[.ptr 0 0 0 0 0]] (fun c hc=>by rw[Wc.1 hc];simp[AV.lt0]);rw[zcV];simp only[cH]
 have hs:¬(kd=7∨kd=8)→zaM l (!p.lp.isEmpty||decide (kd=4)||decide (kd=5))=false:=fun h=>by rw[if_neg (fun e=>h e.1)] at hst;exact hst
 have hne:(kd=7∨kd=8)→p.lp≠[]:=fun h e=>by rw[e,if_pos ⟨h,rfl⟩] at hst;cases hst
 clear hst;rw[if_neg (show ¬kd=1 by omega)];rw[if_neg (show ¬kd=2 by omega)];rw[if_neg (show ¬(kd=3∨kd=6) by omega)];rw[if_neg (show ¬kd=4 by omega)];rw[if_neg (show ¬kd=5 by omega)];rw[if_pos (show kd=7 by omega)];obtain⟨n,hn⟩:∃n,p.lp.length=n+1:=⟨p.lp.length - 1,by have:=WM.2 (hne (by omega));omega⟩
 have h6:(lpC γ.gx p.lp.length++γ.s2).getD n []=[.ptr 6 (n+1) (γ.gx n) 0 0]:=by rw[hn];simp[lpC,Wh,WO]
 have h6l:n < (lpC γ.gx p.lp.length++γ.s2).length:=by rw[hn];simp[lpC];omega
 have hfi:(fi cX M γ.xl γ.gx)[n]? = some ((γ.xl n).map cX,γ.gx n):=zkp (by omega);have hxl:=(hok.lp n (by omega)).1
 have e1:((p.lp.length:Int) - 1).toNat=n:=by omega
 have hp7:0 < p.lp.length:=by omega
 show wpX _ _ _ (retK _ (zrv N fun _ H nx=>N≤nx∧∃γ',OkC (brkP p) γ'∧zjR p.lp.length γ γ'∧H=cH M (brkP p) γ' T)) _ _ _
 by_cases hbk:p.lp[n].2=[]
 ·
  rw[if_pos hbk] at hxl;rw[hxl] at hfi
  (repeat first|simp(disch:=try exact dis1) only[evD,Nat.reduceBEq,Nat.reduceAdd,Nat.reduceLeDiff,dT,dF,fldP,n0,n1,n2,n3,n4,n5,n6,n7,tN,zC,zK,h6,h6l,hfi,e1,Wr]|with_reducible first|intro _|refine aJ ?_)
  (repeat' apply Wo)
  all_goals (refine(zcT M p γ (T.put N (.row 1 [[.ptr 0 0 0 0 0]] 0)) (N+1) 0 hok hT1 (by omega) hM).mono ?_;rintro x H N2 ⟨hN2,rfl,ok2,rfl⟩;obtain⟨m0,m1,m2,m3,m4,m5,m6,m7⟩:=ne8 (show 8≤N2 by omega);obtain⟨q0,q1,q2,q3,q4,q5,q6,q7⟩:=ne8 (show 8≤N2+1 by omega);have t2:=hT.put1 (show N < N2 by omega);have t3:=hT.put2 (show N < N2 by omega) (show N2 < N2+1 by omega);simp only[cH,zhX];(repeat first|simp(disch:=try exact dis1) only[evD,Nat.reduceBEq,Nat.reduceAdd,Nat.reduceLeDiff,dT,dF,n0,n1,n2,n3,n4,n5,n6,n7,m0,m1,m2,m3,m4,m5,m6,m7,q0,q1,q2,q3,q4,q5,q6,q7,t2,t3,zC,zK,hfi,cX,zwV,zG]|with_reducible first|intro _|refine aJ ?_);(repeat' apply Wo))
  all_goals try omega
  all_goals (refine⟨.tup [],_,N2+1+1,?_,by omega,_,zAG ok2 hn,fun _ _=>rfl,rfl⟩;show Ent N _ _ _ _ (cH M (brkP p) (brkG γ p.st.length n p.lp[n].1 p.lp[n].2) T) _;rw[brk_H,hbk];exact zyf (by omega) hT (by omega) (by omega) rfl hxl)
 ·
  have hbl:=(hok.lp n (by omega)).2 hbk;have hfb:(fi cI M γ.bl γ.gb)[n]? = some ((γ.bl n).map cI,γ.gb n):=zkp (by omega);rw[hbl] at hfb;have hbl2:=(hlp _ (Wi (show n < p.lp.length by omega))).1;have htk:(p.lp[n].2.map cI).take p.lp[n].2.length=p.lp[n].2.map cI:=WF (by simp);rw[if_neg hbk] at hxl;rw[hxl] at hfi
  (repeat first|simp(disch:=try exact dis1) only[evD,Nat.reduceBEq,Nat.reduceAdd,Nat.reduceLeDiff,dT,dF,fldP,n0,n1,n2,n3,n4,n5,n6,n7,tN,zC,zK,h6,h6l,hfi,hfb,e1,Wr]|with_reducible first|intro _|refine aJ ?_)
  (repeat' apply Wo)
  all_goals (refine(zcT M p γ (T.put N (.row 1 [[.ptr 0 0 0 0 0]] 0)) (N+1) 0 hok hT1 (by omega) hM).mono ?_;rintro x H N2 ⟨hN2,rfl,ok2,rfl⟩;obtain⟨m0,m1,m2,m3,m4,m5,m6,m7⟩:=ne8 (show 8≤N2 by omega);obtain⟨q0,q1,q2,q3,q4,q5,q6,q7⟩:=ne8 (show 8≤N2+1 by omega);have t2:=hT.put1 (show N < N2 by omega);have t3:=hT.put2 (show N < N2 by omega) (show N2 < N2+1 by omega);simp only[cH,zhX];(repeat first|simp(disch:=try exact dis1) only[evD,Nat.reduceBEq,Nat.reduceAdd,Nat.reduceLeDiff,dT,dF,n0,n1,n2,n3,n4,n5,n6,n7,m0,m1,m2,m3,m4,m5,m6,m7,q0,q1,q2,q3,q4,q5,q6,q7,t2,t3,zC,zK,hfi,hfb,htk,cX,zwV,zyl,zG]|with_reducible first|intro _|refine aJ ?_);(repeat' apply Wo))
  all_goals try omega
  all_goals (refine⟨.tup [],_,N2+1,?_,by omega,_,zAG ok2 hn,fun _ _=>rfl,rfl⟩;show Ent N _ _ _ _ (cH M (brkP p) (brkG γ p.st.length n p.lp[n].1 p.lp[n].2) T) _;rw[brk_H];exact zz0 (by omega) hT (by omega) rfl)
theorem zBp (M:Nat) (hM:M≤1000000) (f:NdF) (c:List Ex) (l:List Nd) (hk:f.kind=8):zec M (.mk f c l):=by
 intro p γ T N hok hlp hT hl1 hl2 hgot hst;refine z8 (fn_x zN rfl ?_);rw[zcL];rw[zav] at hl1 hl2;unfold zdy at hst;obtain⟨kd,bl,lb⟩:=f;simp only at hst hk ⊢;unfold zI;have hB:=hBig;have h8:=hT.eight;obtain⟨n0,n1,n2,n3,n4,n5,n6,n7⟩:=ne8 hT.eight;have tN:T.look N=none:=hT.none (Wa _);have hT1:=hT.put 1 [[.ptr 0 0 0 0 0]] (fun c hc=>by rw[Wc.1 hc];simp[AV.lt0]);rw[zcV];simp only[cH]
 have hs:¬(kd=7∨kd=8)→zaM l (!p.lp.isEmpty||decide (kd=4)||decide (kd=5))=false:=fun h=>by rw[if_neg (fun e=>h e.1)] at hst;exact hst
 have hne:(kd=7∨kd=8)→p.lp≠[]:=fun h e=>by rw[e,if_pos ⟨h,rfl⟩] at hst;cases hst
 clear hst;rw[if_neg (show ¬kd=1 by omega)];rw[if_neg (show ¬kd=2 by omega)];rw[if_neg (show ¬(kd=3∨kd=6) by omega)];rw[if_neg (show ¬kd=4 by omega)];rw[if_neg (show ¬kd=5 by omega)];rw[if_neg (show ¬kd=7 by omega)];rw[if_pos (show kd=8 by omega)];obtain⟨n,hn⟩:∃n,p.lp.length=n+1:=⟨p.lp.length - 1,by have:=WM.2 (hne (by omega));omega⟩
 have h6:(lpC γ.gx p.lp.length++γ.s2).getD n []=[.ptr 6 (n+1) (γ.gx n) 0 0]:=by rw[hn];simp[lpC,Wh,WO]
 have h6l:n < (lpC γ.gx p.lp.length++γ.s2).length:=by rw[hn];simp[lpC];omega
 have hfi:(fi cX M γ.xl γ.gx)[n]? = some ((γ.xl n).map cX,γ.gx n):=zkp (by omega);have hxl:=(hok.lp n (by omega)).1
 have e1:((p.lp.length:Int) - 1).toNat=n:=by omega
 have hp7:0 < p.lp.length:=by omega
 have htop:p.lp[n].1=topL p.lp:=by unfold topL;rw[WJ,show p.lp.length - 1=n by omega,WA (by omega)]
 rw[htop] at hxl;rw[hxl] at hfi
 (repeat first|simp(disch:=try exact dis1) only[evD,Nat.reduceBEq,Nat.reduceAdd,Nat.reduceLeDiff,dT,dF,fldP,n0,n1,n2,n3,n4,n5,n6,n7,tN,zC,zK,h6,h6l,hfi,e1,Wr]|with_reducible first|intro _|refine aJ ?_)
 (repeat' apply Wo)
 all_goals try omega
 all_goals (refine(zcT M p γ (T.put N (.row 1 [[.ptr 0 0 0 0 0]] 0)) (N+1) (topL p.lp) hok hT1 (by omega) hM).mono ?_;rintro x H N2 ⟨hN2,rfl,ok2,rfl⟩;(refine Qq ?_;intros);exact⟨_,_,N2,zcQ (by omega) hT rfl,by omega,_,ok2,fun _ _=>rfl,rfl⟩)
theorem zBh (M:Nat) (hM:M≤1000000) (f:NdF) (c:List Ex) (l:List Nd) (hk:f.kind=9):zec M (.mk f c l):=by
 intro p γ T N hok hlp hT hl1 hl2 hgot hst;refine z8 (fn_x zN rfl ?_);rw[zcL];rw[zav] at hl1 hl2;unfold zdy at hst;obtain⟨kd,bl,lb⟩:=f;simp only at hst hk ⊢;unfold zI;have hB:=hBig;have h8:=hT.eight;obtain⟨n0,n1,n2,n3,n4,n5,n6,n7⟩:=ne8 hT.eight;have tN:T.look N=none:=hT.none (Wa _);have hT1:=hT.put 1 [[.ptr 0 0 0 0 0]] (fun c hc=>by rw[Wc.1 hc];simp[AV.lt0]);rw[zcV];simp only[cH]
 have hs:¬(kd=7∨kd=8)→zaM l (!p.lp.isEmpty||decide (kd=4)||decide (kd=5))=false:=fun h=>by rw[if_neg (fun e=>h e.1)] at hst;exact hst
 have hne:(kd=7∨kd=8)→p.lp≠[]:=fun h e=>by rw[e,if_pos ⟨h,rfl⟩] at hst;cases hst
 clear hst;rw[if_neg (show ¬kd=1 by omega)];rw[if_neg (show ¬kd=2 by omega)];rw[if_neg (show ¬(kd=3∨kd=6) by omega)];rw[if_neg (show ¬kd=4 by omega)];rw[if_neg (show ¬kd=5 by omega)];rw[if_neg (show ¬kd=7 by omega)];rw[if_neg (show ¬kd=8 by omega)];rw[if_pos (show kd=9 by omega)]
 have hg2:(zaA p 0).got.length≤1000000:=by have:(zaA p 0).got.length=p.got.length:=rfl;omega
 (repeat first|simp(disch:=try exact dis1) only[evD,Nat.reduceBEq,Nat.reduceAdd,Nat.reduceLeDiff,dT,dF,fldP,n0,n1,n2,n3,n4,n5,n6,n7,tN,zC,zK]|with_reducible first|intro _|refine aJ ?_)
 (repeat' apply Wo)
 all_goals (refine(zcT M p γ (T.put N (.row 1 [[.ptr 0 0 0 0 0]] 0)) (N+1) 0 hok hT1 (by omega) hM).mono ?_;rintro x H N2 ⟨hN2,rfl,ok2,rfl⟩;simp only[cH];(repeat first|simp(disch:=try exact dis1) only[evD,Nat.reduceBEq,Nat.reduceAdd,Nat.reduceLeDiff,n0,n1,n2,n3,n4,n5,n6,n7,tN,zC,zK,zG,zq8 hg2]|with_reducible first|intro _|refine aJ ?_);exact⟨_,_,N2,zcQ (p:={ zaA p 0 with got:=setL p.got p.st.length lb }) (by omega) hT rfl,by omega,_,⟨ok2.to,ok2.lp,ok2.s2,ok2.xl⟩,fun _ _=>rfl,rfl⟩)
theorem zyz (M:Nat) (hM:M≤1000000) (f:NdF) (c:List Ex) (l:List Nd) (hk:f.kind=10):zec M (.mk f c l):=by
 intro p γ T N hok hlp hT hl1 hl2 hgot hst;refine z8 (fn_x zN rfl ?_);rw[zcL];rw[zav] at hl1 hl2;unfold zdy at hst;obtain⟨kd,bl,lb⟩:=f;simp only at hst hk ⊢;unfold zI;have hB:=hBig;have h8:=hT.eight;obtain⟨n0,n1,n2,n3,n4,n5,n6,n7⟩:=ne8 hT.eight;have tN:T.look N=none:=hT.none (Wa _);have hT1:=hT.put 1 [[.ptr 0 0 0 0 0]] (fun c hc=>by rw[Wc.1 hc];simp[AV.lt0]);rw[zcV];simp only[cH]
 have hs:¬(kd=7∨kd=8)→zaM l (!p.lp.isEmpty||decide (kd=4)||decide (kd=5))=false:=fun h=>by rw[if_neg (fun e=>h e.1)] at hst;exact hst
 have hne:(kd=7∨kd=8)→p.lp≠[]:=fun h e=>by rw[e,if_pos ⟨h,rfl⟩] at hst;cases hst
 clear hst;rw[if_neg (show ¬kd=1 by omega)];rw[if_neg (show ¬kd=2 by omega)];rw[if_neg (show ¬(kd=3∨kd=6) by omega)];rw[if_neg (show ¬kd=4 by omega)];rw[if_neg (show ¬kd=5 by omega)];rw[if_neg (show ¬kd=7 by omega)];rw[if_neg (show ¬kd=8 by omega)];rw[if_neg (show ¬kd=9 by omega)];rw[if_pos (show kd=10 by omega)]
 (repeat first|simp(disch:=try exact dis1) only[evD,Nat.reduceBEq,Nat.reduceAdd,Nat.reduceLeDiff,dT,dF,fldP,n0,n1,n2,n3,n4,n5,n6,n7,tN,zC,zK]|with_reducible first|intro _|refine aJ ?_)
 (repeat' apply Wo)
 all_goals (refine zbT (zgn (by rfl) (by rfl) (by simp[zco]) (by omega)) ?_;(repeat first|simp(disch:=try exact dis1) only[evD,Nat.reduceBEq,Nat.reduceAdd,Nat.reduceLeDiff,zG,zq8 (show p.lab.length≤1000000 by omega)]|with_reducible first|intro _|refine aJ ?_);exact⟨_,_,N+1,zcQ (p:={ p with lab:=setL p.lab lb p.st.length }) (by omega) hT rfl,by omega,_,⟨hok.to,hok.lp,hok.s2,hok.xl⟩,fun _ _=>rfl,rfl⟩)
theorem zBB (M:Nat) (hM:M≤1000000) (f:NdF) (c:List Ex) (l:List Nd) (hk:f.kind < 1∨12 < f.kind):zec M (.mk f c l):=by
 intro p γ T N hok hlp hT hl1 hl2 hgot hst;refine z8 (fn_x zN rfl ?_);rw[zcL];rw[zav] at hl1 hl2;unfold zdy at hst;obtain⟨kd,bl,lb⟩:=f;simp only at hst hk ⊢;unfold zI;have hB:=hBig;have h8:=hT.eight;obtain⟨n0,n1,n2,n3,n4,n5,n6,n7⟩:=ne8 hT.eight;have tN:T.look N=none:=hT.none (Wa _);have hT1:=hT.put 1 [[.ptr 0 0 0 0 0]] (fun c hc=>by rw[Wc.1 hc];simp[AV.lt0]);rw[zcV];simp only[cH]
 have hs:¬(kd=7∨kd=8)→zaM l (!p.lp.isEmpty||decide (kd=4)||decide (kd=5))=false:=fun h=>by rw[if_neg (fun e=>h e.1)] at hst;exact hst
 have hne:(kd=7∨kd=8)→p.lp≠[]:=fun h e=>by rw[e,if_pos ⟨h,rfl⟩] at hst;cases hst
 clear hst;rw[if_neg (show ¬kd=1 by omega)];rw[if_neg (show ¬kd=2 by omega)];rw[if_neg (show ¬(kd=3∨kd=6) by omega)];rw[if_neg (show ¬kd=4 by omega)];rw[if_neg (show ¬kd=5 by omega)];rw[if_neg (show ¬kd=7 by omega)];rw[if_neg (show ¬kd=8 by omega)];rw[if_neg (show ¬kd=9 by omega)];rw[if_neg (show ¬kd=10 by omega)];rw[if_neg (show ¬(kd=11∨kd=12) by omega)]
 (repeat first|simp(disch:=try exact dis1) only[evD,Nat.reduceBEq,Nat.reduceAdd,Nat.reduceLeDiff,dT,dF,fldP,n0,n1,n2,n3,n4,n5,n6,n7,tN,zC,zK,zG]|with_reducible first|intro _|refine aJ ?_)
 exact⟨_,_,N+1,zcQ (by omega) hT rfl,by omega,_,hok,fun _ _=>rfl,rfl⟩
theorem zor (M:Nat) (hM:M≤1000000) (f:NdF) (c:List Ex) (l:List Nd) (hall:zqK M l) (hbr:BrOk M l) (hlo:zqs M l):zec M (.mk f c l):=by
 by_cases k1:f.kind=1
 · exact zBc M hM f c l hall k1
 by_cases k2:f.kind=2
 · exact zA3 M hM f c l k2
 by_cases k3:f.kind=3
 · exact zA9 M hM f c l hbr k3
 by_cases k4:f.kind=4
 · exact zBx M hM f c l hlo k4
 by_cases k5:f.kind=5
 · exact zAT M hM f c l hlo k5
 by_cases k6:f.kind=6
 · exact zBm M hM f c l hbr k6
 by_cases k7:f.kind=7
 · exact zze M hM f c l k7
 by_cases k8:f.kind=8
 · exact zBp M hM f c l k8
 by_cases k9:f.kind=9
 · exact zBh M hM f c l k9
 by_cases k10:f.kind=10
 · exact zyz M hM f c l k10
 by_cases k11:f.kind=11
 · exact zz2 M hM f c l k11
 by_cases k12:f.kind=12
 · exact zAa M hM f c l k12
 exact zBB M hM f c l (by omega)
theorem znL {l:List Nd} {p:PC} {i:Nat} (h:i < l.length):zay (l.take (i+1)) p=zaC l[i] (zay (l.take i) p):=by
 induction l generalizing p i with
 | nil=>simp at h
 |
  cons a l ih =>
  cases i with
  | zero=>simp only[Wp,WP,zay,WD]
  |
   succ i =>
   rw[Wp,Wp,zay,zay,WQ];exact ih (by simpa using h)
theorem zkX:∀ {l:List Nd} {i:Nat} (h:i < l.length),z6 (l.take i)+zav l[i]≤z6 l
 | [],i,h=>by simp at h
 |
  a::l,0,h=>by
  rw[z6,WP,z6,WD];omega
 |
  a::l,i+1,h=>by
  have:=zkX (l:=l) (i:=i) (by simpa using h);rw[z6,Wp,z6,WQ];omega
theorem zkO:∀ {l:List Nd} {b:Bool},zaM l b=false→∀e∈l,zdy e b=false
 | [],_,_,e,he=>by cases he
 |
  a::l,b,h,e,he=>by
  rw[zaM,Bool.or_eq_false_iff] at h
  rcases Wq.1 he with rfl|he
  · exact h.1
  · exact zkO h.2 e he
theorem zoB {α β:Type} {a:List α} {b:List β} (h:a.length=b.length):a.isEmpty=b.isEmpty:=by
 cases a<;>cases b<;>simp at h<;>rfl
theorem znb (e:Nd):1≤zav e:=by obtain⟨f,c,m⟩:=e;rw[zav];omega
theorem zkg (M:Nat) (hM:M≤1000000) (l:List Nd) (hn:∀e∈l,zec M e):zqK M l:=by
 intro p γ T N hok hlp hT hl1 hl2 hgot hst;refine z8 (fn_x zlW rfl ?_);unfold zhB;have hB:=hBig;have h8:=hT.eight;obtain⟨n0,n1,n2,n3,n4,n5,n6,n7⟩:=ne8 hT.eight;have tN:T.look N=none:=hT.none (Wa _)
 (refine Qa ?_;intros)
 refine zk (fun s:Nat × Gn=>([(0,.ptr 0 0 0 0 0),(6,encL 5 encN l),(7,.int .i64 l.length),(8,.int .i64 s.1)],cH M (zay (l.take s.1) p) s.2 T)) N (fun s=>s.1≤l.length∧OkC (zay (l.take s.1) p) s.2∧zjR p.lp.length γ s.2) (fun s=>l.length - s.1) (0,γ) ⟨Wg _,hok,fun _ _=>rfl⟩ ?_ ?_
 · exact Ent.low (Wa _) (fun _ _ h=>h) (zk0 hok hT) (by refine⟨⟨rfl,?_⟩,⟨rfl,?_⟩,⟨rfl,?_⟩,⟨rfl,?_⟩,trivial⟩<;>simp[AV.lt1,AV.lt0,encL]<;>omega)
 ·
  rintro⟨i,γ1⟩ ⟨hi,hok1,sx1⟩ wf;simp only at hi hok1 sx1 ⊢;clear wf;unfold zfF;have hp:=zbN (l.take i) p
  by_cases hl:i < l.length
  ·
   have hsz:=zkX hl;have hpos:=znb l[i];have hlen:=hp.len;have hg2:=hp.got;have hlp2:=hp.lp.1;have hT1:=hT.put 5 [encN l[i]] (zhP (fun c hc=>by rw[Wc.1 hc];exact zaH));simp only[cH]
   (repeat first|simp(disch:=try exact dis1) only[evD,Nat.reduceBEq,Nat.reduceAdd,Nat.reduceLeDiff,dT,dF,fldP,n0,n1,n2,n3,n4,n5,n6,n7,tN,zC,zK,znS,zm hl,zbR,zbe]|with_reducible first|intro _|refine aJ ?_)
   have hs1:=zkO hst l[i] (Wi hl);rw[zoB hlp2.symm] at hs1;refine(hn l[i] (Wi hl) (zay (l.take i) p) γ1 (T.put N (.row 5 [encN l[i]] 0)) (N+1) hok1 (hp.ok hlp) hT1 (by omega) (by omega) (by omega) hs1).mono ?_;rintro x H N2 ⟨hN2,γ2,ok2,sx2,rfl⟩
   (refine Qa ?_;intros)
   have ok3:OkC (zay (l.take (i+1)) p) γ2:=by rw[znL hl];exact ok2
   refine⟨(i+1,γ2),⟨hl,ok3,sx1.trans sx2 (by omega)⟩,by omega,Ent.low (Wa _) ?_ (zk0 ok3 hT) (by refine⟨⟨rfl,?_⟩,⟨rfl,?_⟩,⟨rfl,?_⟩,⟨rfl,?_⟩,trivial⟩<;>simp[AV.lt1,AV.lt0,encL]<;>omega)⟩;simp only;rw[znL hl];exact zwW (zk7 tN)
  ·
   have hi2:i=l.length:=by omega
   subst hi2;rw[WV] at hok1 ⊢
   (repeat first|simp(disch:=try exact dis1) only[evD,Nat.reduceBEq,Nat.reduceAdd,Nat.reduceLeDiff,dF,zhx]|with_reducible first|intro _|refine aJ ?_)
   exact⟨_,_,N,Ent.low (Wa _) (fun _ _ h=>h) (zk0 hok1 hT) (K2:=[(0,.tup [])]) ⟨⟨rfl,rfl⟩,trivial⟩,by omega,γ1,hok1,sx1,rfl⟩
theorem zyO {at':Nat} {l:List Nd} {p:PC} {ends:List Int} {i:Nat} (h:i < l.length):brP at' (l.take (i+1)) p ends =
  (zaA (zaC l[i] (appTo (brP at' (l.take i) p ends).1 at' (brP at' (l.take i) p ends).1.st.length)) 0,(brP at' (l.take i) p ends).2++[((zaC l[i] (appTo (brP at' (l.take i) p ends).1 at' (brP at' (l.take i) p ends).1.st.length)).st.length:Int)]):=by
 induction l generalizing p i ends with
 | nil=>simp at h
 |
  cons a l ih =>
  cases i with
  | zero=>simp only[Wp,WP,brP,WD]
  |
   succ i =>
   rw[Wp,Wp,brP,WQ];simp only[brP];exact ih (by simpa using h)
def tlen (p:PC) (k:Nat):Option Nat:=p.st[k]?.bind fun s=>s.to.map List.length
def zd3 (b:Nat) (p q:PC):Prop:=∀k,k < b→tlen q k=tlen p k
theorem zd3.trans {b:Nat} {p q r:PC} (h:zd3 b p q) (k:zd3 b q r):zd3 b p r:=fun i hi=>(k i hi).trans (h i hi)
theorem zd3.of_st {b:Nat} {p q:PC} (h:q.st=p.st):zd3 b p q:=fun k _=>by unfold tlen;rw[h]
theorem zbC {b:Nat} {p:PC} {s:PSt} (hb:b≤p.st.length):zd3 b p (addP p s):=fun k hk=>by unfold tlen addP;simp only;rw[WZ (by omega)]
theorem zij {b:Nat} {p:PC} {k i:Nat} {v:Int}:zd3 b p (setTo p k i v):=fun k' _=>by
 unfold tlen setTo;simp only[Wm]
 cases p.st[k']? with
 | none=>rfl
 |
  some s =>
  simp only[Wx,Wf,WR]
  by_cases h:k=k'
  ·
   rw[if_pos h];simp only
   cases s.to with
   | none=>rfl
   | some l=>simp
  · rw[if_neg h]
theorem zsI {b:Nat} {p:PC} {k:Nat} {v:Int} (hb:b≤k):zd3 b p (appTo p k v):=fun k' hk=>by
 unfold tlen appTo;simp only[Wm]
 cases p.st[k']? with
 | none=>rfl
 |
  some s =>
  simp only[Wx,Wf,WR];rw[if_neg (by omega)]
theorem ze1 {b:Nat}:∀ {ks:List Int} {p:PC} {v:Int},zd3 b p (putAll p ks v)
 | [],p,v=>fun _ _=>rfl
 |
  k::ks,p,v=>by
  unfold putAll;rw[List.foldl_cons];exact zij.trans ze1
theorem zoD {b:Nat} {p q:PC} {top t:Int} (hb:b≤q.st.length) (h:zd3 b (zbl p t) q):zd3 b p (zdZ q top):=by unfold zdZ;refine zd3.trans (fun k hk=>h k hk) (zd3.trans (zd3.of_st (q:={ q with lp:=q.lp.dropLast }) rfl) (zd3.trans (zbC (s:=⟨1,0,some [top]⟩) hb) ze1))
mutual
theorem zes:∀(n:Nd) (p:PC) (b:Nat),b≤p.st.length→zd3 b p (zaC n p)
 |
  .mk f c l,p,b,hb=>by
  rw[zaC];split
  · exact zdx l p b hb
  split
  · exact zbC hb
  split
  · simp only;have h1:zd3 b p (zaQ p):=zbC hb;exact(h1.trans (zsj p.st.length l (zaQ p) [] b hb (by simp[zaQ,addP];omega))).trans ze1
  split
  · exact zoD (Wl hb (zbN l (zbl p p.st.length)).keep.len) (zdx l (zbl p p.st.length) b hb)
  split
  ·
   simp only;have h1:zd3 b p (addP p ⟨0,f.block,none⟩):=zbC hb
   have e1:b≤(addP p ⟨0,f.block,none⟩).st.length:=by simp[addP];omega
   have h2:zd3 b p (zeG p f.block):=h1.trans (zbC e1)
   have e2:b≤(zeG p f.block).st.length:=by unfold zeG;simp[addP];omega
   exact(h2.trans (zoD (Wl e2 (zbN l (zbl (zeG p f.block) p.st.length)).keep.len) (zdx l (zbl (zeG p f.block) p.st.length) b e2))).trans zij
  split
  · exact zd3.trans (zbC hb) (zd3.of_st rfl)
  split
  · exact zbC hb
  split
  · exact zd3.trans (zbC hb) (zd3.of_st rfl)
  split
  · exact zd3.of_st rfl
  split
  · exact zbC hb
  · exact fun _ _=>rfl
theorem zdx:∀(l:List Nd) (p:PC) (b:Nat),b≤p.st.length→zd3 b p (zay l p)
 | [],p,b,hb=>by rw[zay];exact fun _ _=>rfl
 |
  n::l,p,b,hb=>by
  rw[zay];exact(zes n p b hb).trans (zdx l (zaC n p) b (Wl hb (zbW n p).keep.len))
theorem zsj (at':Nat):∀(l:List Nd) (p:PC) (ends:List Int) (b:Nat),b≤at'→b≤p.st.length→zd3 b p (brP at' l p ends).1
 | [],p,ends,b,h1,h2=>by rw[brP];exact fun _ _=>rfl
 |
  n::l,p,ends,b,h1,h2=>by
  rw[brP]
  have e0:b≤(appTo p at' p.st.length).st.length:=by simp[appTo];omega
  have e1:=Wl e0 (zbW n (appTo p at' p.st.length)).keep.len;exact(((zsI h1).trans (zes n _ b e0)).trans (zbC e1)).trans (zsj at' l _ _ b h1 (by simp[zaA,addP];omega))
end
theorem zm6 {p:PC} {k n:Nat} {v:Int} (h:tlen p k=some n):tlen (appTo p k v) k=some (n+1):=by
 unfold tlen appTo at *;simp only[Wm]
 cases hs:p.st[k]? with
 | none=>rw[hs] at h;cases h
 |
  some s =>
  rw[hs] at h;simp only[WR] at h
  cases ht:s.to with
  | none=>rw[ht] at h;cases h
  |
   some l =>
   rw[ht] at h;cases h;simp[ht]
def setG (γ:Gn) (k i:Nat) (v:Int):Gn:={ γ with tl:=updF γ.tl k ((γ.tl k).set i v) }
theorem zxV {gt:Nat→Nat} {p:PC} {k i:Nat} {v:Int}:stC gt (setTo p k i v).st=stC gt p.st:=by
 apply Wv;intro j;simp only[stC,setTo,WB,Wm]
 cases p.st[j]? with
 | none=>rfl
 |
  some s =>
  simp only[Wx,Wf];split
  ·
   unfold cS toV;simp only
   cases s.to with
   | none=>rfl
   | some l=>simp
  · rfl
theorem zlm {p:PC} {γ:Gn} (hok:OkC p γ) (k i:Nat) (v:Int):OkC (setTo p k i v) (setG γ k i v):=by
 refine⟨fun k' h' l e=>?_,hok.lp,hok.s2,hok.xl⟩
 have h2:k' < p.st.length:=by simpa [setTo] using h'
 simp only[setTo,setG] at e ⊢;rw[W6] at e
 by_cases hk:k=k'
 · subst hk;rw[if_pos rfl] at e;simp only at e;obtain⟨l0,e1,rfl⟩:=Option.map_eq_some_iff.1 e;rw[zbh,hok.to k h2 l0 e1]
 · rw[if_neg hk] at e;rw[zdm (Ne.symm hk)];exact hok.to k' h2 l e
theorem zqx {M k i:Nat} {tl:Nat→List Int} {gt:Nat→Nat} {v:Int}:(fi cI M tl gt).set k (((tl k).map cI).set i [.int .i64 v],gt k)=fi cI M (updF tl k ((tl k).set i v)) gt:=by have h:=zya (c:=cI) (n:=M) (k:=k) (g:=gt k) (ll:=tl) (gs:=gt) (l:=(tl k).set i v);rw[zni] at h;rw[←h,List.map_set]
theorem zqM {M:Nat} {p:PC} {γ:Gn} {T:AH} {k i:Nat} {v:Int}:cH M (setTo p k i v) (setG γ k i v) T =
  (0,.row 4 [[.own 1 0 γ.gs 0 p.st.length,.own 2 0 γ.gl 0 p.lp.length,.mp 3 0,.mp 4 0]] 0)::(1,.row 3 (stC γ.gt p.st) γ.gs)::(2,.row 1 (lpC γ.gx p.lp.length++γ.s2) γ.gl)::(3,.row 3 (mpC p.lab) 0)::(4,.row 3 (mpC p.got) 0) ::
  (5,.fam 1 (fi cI M (updF γ.tl k ((γ.tl k).set i v)) γ.gt))::(6,.fam 2 (fi cX M γ.xl γ.gx))::(7,.fam 1 (fi cI M γ.bl γ.gb))::T:=by
 unfold cH setG;simp only[zxV]
 have:(setTo p k i v).st.length=p.st.length:=by simp[setTo]
 rw[this];rfl
def appG (γ:Gn) (k:Nat) (l:List Int) (v:Int):Gn:={ γ with gt:=updF γ.gt k (γ.gt k+1),tl:=updF γ.tl k (l++[v]) }
theorem zr3 {p:PC} {γ:Gn} (hok:OkC p γ) {k:Nat} {s:PSt} {l:List Int} (v:Int) (hs:p.st[k]? = some s) (ht:s.to=some l):OkC (appTo p k v) (appG γ k l v):=by
 refine⟨fun k' h' l' e=>?_,hok.lp,hok.s2,hok.xl⟩
 have h2:k' < p.st.length:=by simpa [appTo] using h'
 simp only[appTo,appG] at e ⊢;rw[W6] at e
 by_cases hk:k=k'
 ·
  subst hk;rw[if_pos rfl] at e
  have hs':p.st[k]=s:=by rw[WA h2] at hs;exact Option.some.inj hs
  simp only[hs',ht,Wf,WI] at e;rw[zbh,e]
 · rw[if_neg hk] at e;rw[zdm (Ne.symm hk)];exact hok.to k' h2 l' e
theorem zxb {γ:Gn} {p:PC} {k:Nat} {s:PSt} {l:List Int} {v:Int} (hs:p.st[k]? = some s) (ht:s.to=some l) :
  stC (updF γ.gt k (γ.gt k+1)) (appTo p k v).st=(stC γ.gt p.st).set k [.int .i64 s.kind,.int .i64 s.block,.own 5 (k+1) (γ.gt k+1) 0 (l.length+1)]:=by
 have hk:=(WK.1 hs).1;apply Wv;intro j;rw[WN];simp only[stC,appTo,WB,Wm,W3]
 by_cases hj:k=j
 · subst hj;rw[if_pos rfl,if_pos hk,hs];simp only[if_true,Wx,Wf,cS,toV,ht,zbh,Wd,We]
 ·
  rw[if_neg hj];simp only[hj,if_false]
  cases p.st[j]? with
  | none=>rfl
  |
   some x =>
   simp only[Wx,Wf,cS,toV]
   cases x.to with
   | none=>rfl
   | some y=>simp only[zdm (Ne.symm hj)]
theorem zBK {M:Nat} {p:PC} {γ:Gn} {T:AH} {k:Nat} {s:PSt} {l:List Int} {v:Int} (hs:p.st[k]? = some s) (ht:s.to=some l):cH M (appTo p k v) (appG γ k l v) T =
  (0,.row 4 [[.own 1 0 γ.gs 0 p.st.length,.own 2 0 γ.gl 0 p.lp.length,.mp 3 0,.mp 4 0]] 0)::(1,.row 3 ((stC γ.gt p.st).set k [.int .i64 s.kind,.int .i64 s.block,.own 5 (k+1) (γ.gt k+1) 0 (l.length+1)]) γ.gs)::(2,.row 1 (lpC γ.gx p.lp.length++γ.s2) γ.gl)::(3,.row 3 (mpC p.lab) 0)::(4,.row 3 (mpC p.got) 0) ::
  (5,.fam 1 (fi cI M (updF γ.tl k (l++[v])) (updF γ.gt k (γ.gt k+1))))::(6,.fam 2 (fi cX M γ.xl γ.gx))::(7,.fam 1 (fi cI M γ.bl γ.gb))::T:=by
 unfold cH appG;simp only[zxb hs ht]
 have:(appTo p k v).st.length=p.st.length:=by simp[appTo]
 rw[this];rfl
def zpI (γ:Gn) (k:Nat):Gn:={ γ with gt:=updF γ.gt k (γ.gt k+1),tl:=updF γ.tl k [] }
theorem zuf {p:PC} {γ:Gn} (k b:Int) (hok:OkC (addP p ⟨k,b,none⟩) γ):OkC (addP p ⟨k,b,some []⟩) (zpI γ p.st.length):=by
 refine⟨fun k' h' l e=>?_,hok.lp,hok.s2,hok.xl⟩
 have h2:k' < p.st.length+1:=by simpa [addP] using h'
 simp only[addP,zpI] at e ⊢
 by_cases hk:k'=p.st.length
 · subst hk;simp at e;rw[zbh,e]
 · rw[WC (by omega)] at e;rw[zdm hk];refine hok.to k' (by simp[addP];omega) l ?_;simp only[addP];rw[WC (by omega)];exact e
theorem zxI {B nx M:Nat} {p:PC} {γ:Gn} {T:AH} {k b:Int} {K K2:Kn} (hB:B≤nx) (hl:p.st.length < M) (hT:∀r o,T.look r=some o→8≤r) (hK:zo9 none 5 (p.st.length+1) (γ.gt p.st.length+1) K2 K) :
  Ent B K (cH M (addP p ⟨k,b,none⟩) γ T) nx K2 (cH M (addP p ⟨k,b,some []⟩) (zpI γ p.st.length) T) nx:=by
 refine Ent.adoptF (c:=cI) (F:=5) (k:=p.st.length) (m:=M) (sz:=1) (ll:=γ.tl) (gs:=γ.gt) (l:=[]) none hB hl rfl (by simp) (fun _=>rfl) ?_ hK;intro x o2 h;refine⟨fun m e=>(by cases e),?_⟩
 match x with
 | 0=>cases h;exact .inr ⟨by omega,_,rfl,by simp only[addP,zpI,Wd,We];exact .same _⟩
 |
  1 =>
  cases h;refine .inr ⟨by omega,_,rfl,?_⟩;simp only[addP,zpI,zqd,zug];refine .row _ _ _ _ (RowA.app (RowA.cons ?_ (RowA.refl _)) _);simp only[cS,toV,zbh];exact⟨.same _,.same _,.nil rfl,trivial⟩
 | 2=>cases h;exact .inr ⟨by omega,_,rfl,.same _⟩
 | 3=>cases h;exact .inr ⟨by omega,_,rfl,.same _⟩
 | 4=>cases h;exact .inr ⟨by omega,_,rfl,.same _⟩
 | 5=>cases h;exact .inl ⟨rfl,rfl⟩
 | 6=>cases h;exact .inr ⟨by omega,_,rfl,.same _⟩
 | 7=>cases h;exact .inr ⟨by omega,_,rfl,.same _⟩
 |
  x+8 =>
  rw[zjo (by omega)] at h;exact .inr ⟨by omega,o2,by rw[zjo (by omega)];exact h,.same _⟩
end Go.Ab
