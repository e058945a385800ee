/-
  Part 10 of the proof: how the calls of this program run, over values instead of memory, and what each function computes.
-/
import Derived.KernelRfl
import Derived.Test.YtjcbhpmmngfmeaaGreatKi
set_option maxRecDepth 100000
set_option linter.unusedVariables false
set_option linter.unusedSimpArgs false
set_option linter.unnecessarySimpa false
set_option linter.unusedSectionVars false
open List renaming eq_nil_of_length_eq_zero→Wa,range→Wd,getElem_mem→We,drop_of_length_le→Wf,length_eq_one_iff→Wg,getElem?_eq_getElem→Wh,drop_eq_getElem_cons→Wi,findIdx?_eq_some_iff_getElem→Wk,findIdx?_eq_none_iff→Wl,getD_eq_getElem?_getD→Wm,take_add_one→Wn,filter_append→Wo,nodup_append→Wp
open Nat renaming zero_le→Wc
open Bool renaming and_eq_true→Wj
namespace Go.Ab
open Go.RowKit Go.Proofs
theorem Qy {p q:Prop}(k:q)(h:Im q p:=by(repeat first|simp(disch:=try exact dis1) only[evD,Nat.reduceBEq,Nat.reduceAdd,Nat.reduceLeDiff,zcF] | ((with_reducible apply Im.i);intro _) | ((with_reducible apply Im.a);omega));exact Im.r):p:=h k
theorem zp1 (g:G) (hf:manyB g) (hc:∀b∈g.blocks,∀s∈b.stmts,s.cases.length≤100000000):zl Tryz.prog zkM [.agg g.cells] (·=.bool (!g.blocks.isEmpty&&g.blocks.all fun b=>zdq b.stmts g.blocks.length)):=by
 refine fn_x zqT rfl ?_;unfold zmq;have hB:=hBig;obtain⟨hb,hs⟩:=hf;obtain⟨ad,l⟩:=g;simp only at hb hs hc;simp only[G.cells]
 by_cases h0:l.length=0
 ·
  obtain rfl:l=[]:=Wa h0
  (repeat first|simp(disch:=try exact dis1) only[evD,Nat.reduceBEq,Nat.reduceAdd,Nat.reduceLeDiff,fldP,dT,List.length_nil,zcF]|with_reducible first|intro _|refine aJ ?_)
  exact⟨_,.bool _ _,rfl⟩
 have he:l.isEmpty=false:=by cases l with|nil=>simp at h0|cons a l=>rfl
 rw[he];generalize hR:(l.all fun b=>zdq b.stmts l.length)=R
 (refine Qi ?_;intros)
 refine zk (fun i:Nat=>([(1,encP 2 [.int .u32 ad,encL 2 Bl.cells l]),(11,encL 2 Bl.cells l),(12,.int .i64 l.length),(13,.int .i64 i)],[])) 0 (fun i=>i≤l.length∧((l.drop i).all fun b=>zdq b.stmts l.length)=R) (fun i=>l.length - i) 0 ⟨Wc _,hR⟩ (Ent.keep rfl fin5) ?_;rintro i ⟨hi,hgo⟩ wf;unfold zjr
 by_cases hl:i < l.length
 ·
  have hg:(l.map Bl.cells).getD i []=[.int .u32 l[i].addr,encL 8 St.cells l[i].stmts]:=zm hl;have hss:=zmL l[i] (hc _ (We hl));rw[Wi hl,List.all_cons] at hgo;simp only[Bl.cells] at hss;generalize l[i].stmts=m at hg hgo hss;generalize l[i].addr=ad' at hg hss
  by_cases hm0:m.length=0
  ·
   obtain rfl:m=[]:=Wa hm0
   replace hgo:R=false:=by rw[←hgo];rfl
   subst hgo
   (repeat first|simp(disch:=try exact dis1) only[evD,Nat.reduceBEq,Nat.reduceAdd,Nat.reduceLeDiff,fldP,dT,hg,List.length_nil,zcF]|with_reducible first|intro _|refine aJ ?_)
   exact⟨_,.bool _ _,rfl⟩
  have hlast:m.length - 1 < m.length:=by omega
  have hidx:(((m.length:Nat):Int) - 1).toNat=m.length - 1:=by omega
  have hme:m.isEmpty=false:=by cases m with|nil=>simp at hm0|cons a l=>rfl
  unfold zdq at hgo;rw[hme,zmD m hlast] at hgo
  (repeat first|simp(disch:=try exact dis1) only[evD,Nat.reduceBEq,Nat.reduceAdd,Nat.reduceLeDiff,fldP,dT,dF,hg,hidx,zm hlast,St.len,St.eight]|with_reducible first|intro _|refine aJ ?_)
  refine zc (zg (ziu m[m.length - 1]) rfl) ?_;generalize zlK m[m.length - 1]=q at hgo
  cases q with
  |
   false =>
   replace hgo:R=false:=by rw[←hgo];rfl
   subst hgo
   (refine Qy ?_;intros)
   exact⟨_,.bool _ _,rfl⟩
  |
   true =>
   (repeat first|simp(disch:=try exact dis1) only[evD,Nat.reduceBEq,Nat.reduceAdd,Nat.reduceLeDiff,fldP,zxB,hidx]|with_reducible first|intro _|refine aJ ?_)
   refine zc (zM (D:=noR) (zh2 (m.take (m.length - 1)) _ _ (zpp _)) (.cons (zzD (by omega) (by omega) rfl (fun _=>rfl)) (.cons (zuV (zpp (m.take (m.length - 1)))) .nil)) (.inl rfl)) ?_;generalize (m.take (m.length - 1)).any zlK=q at hgo
   cases q with
   |
    true =>
    replace hgo:R=false:=by rw[←hgo];rfl
    subst hgo
    (refine Qy ?_;intros)
    exact⟨_,.bool _ _,rfl⟩
   |
    false =>
    (refine Ql ?_;intros)
    refine zc (zg hss rfl) ?_
    (refine Ql ?_;intros)
    refine zc (zM (D:=noR) (zh9 (zx m) _ _ (zmJ ad l _)) (.cons (zal rfl) (.cons (zuP (zmJ ad l (zx m))) .nil)) (.inl rfl)) ?_;rw[List.all_eq_not_any_not] at hgo;generalize ((zx m).any fun t => !inN l.length t)=q at hgo
    cases q with
    |
     true =>
     replace hgo:R=false:=by rw[←hgo];rfl
     subst hgo
     (refine Qy ?_;intros)
     exact⟨_,.bool _ _,rfl⟩
    |
     false =>
     replace hgo:((l.drop (i+1)).all fun b=>zdq b.stmts l.length)=R:=by rw[←hgo];rfl
     (refine Qa ?_;intros)
     exact⟨i+1,⟨by omega,hgo⟩,by omega,(Ent.tab [] [] rfl Qak Qak)⟩
 ·
  rw[Wf (by omega)] at hgo
  replace hgo:R=true:=by rw[←hgo];rfl
  subst hgo
  (refine Qi ?_;intros)
  unfold zjn
  (refine Qy ?_;intros)
  exact⟨_,.bool _ _,rfl⟩
theorem QV {p q:Prop}(k:q)(h:Im q p:=by(repeat first|simp(disch:=try exact dis1) only[evD,Nat.reduceBEq,Nat.reduceAdd,Nat.reduceLeDiff,zbH] | ((with_reducible apply Im.i);intro _) | ((with_reducible apply Im.a);omega));exact Im.r):p:=h k
theorem zhI (g:G) (hf:manyB g) (hc:∀b∈g.blocks,∀s∈b.stmts,s.cases.length≤100000000):zl Tryz.prog zdS [.agg g.cells] (·=.int .i64 (zbz g)):=by
 refine fn_x zmW rfl ?_;unfold ziy;have hB:=hBig;have hsh:=zp1 g hf hc;obtain⟨hb,hs⟩:=hf;obtain⟨ad,l⟩:=g;simp only at hb hs hsh;simp only[G.cells,zbz,zmC] at hsh ⊢
 (refine Ql ?_;intros)
 refine zk (fun s:Nat × Nat=>([(1,encP 2 [.int .u32 ad,encL 2 Bl.cells l]),(3,.int .i64 s.2),(12,encL 2 Bl.cells l),(13,.int .i64 l.length),(14,.int .i64 s.1)],[])) 0 (fun s=>s.1≤l.length∧s.2=cntB (l.take s.1)∧s.2≤1000000 * s.1) (fun s=>l.length - s.1) (0,0) ⟨Wc _,rfl,Nat.le_refl _⟩ (Ent.keep rfl fin5) ?_;rintro⟨i,n⟩ ⟨hi,hn0,hn⟩ wf;simp only at hi hn0 hn;unfold zgD
 by_cases hl:i < l.length
 ·
  have hg:(l.map Bl.cells).getD i []=[.int .u32 l[i].addr,encL 8 St.cells l[i].stmts]:=zm hl;have hsl:=hs l[i] (We hl)
  (repeat first|simp(disch:=try exact dis1) only[evD,Nat.reduceBEq,Nat.reduceAdd,Nat.reduceLeDiff,fldP,dT,hg]|with_reducible first|intro _|refine aJ ?_)
  exact⟨(i+1,n+l[i].stmts.length),⟨by simp only;omega,by simp only;rw[zrb hl];omega,by simp only;omega⟩,by simp only;omega,(Ent.tab [] [] rfl Qak Qak)⟩
 obtain rfl:i=l.length:=by omega
 rw[List.take_length] at hn0
 (refine Qi ?_;intros)
 unfold zf1
 by_cases h256:256 < l.length
 ·
  rw[if_pos (.inl h256)]
  (repeat first|simp(disch:=try exact dis1) only[evD,Nat.reduceBEq,Nat.reduceAdd,Nat.reduceLeDiff,fldP,dT,zbH]|with_reducible first|intro _|refine aJ ?_)
  exact⟨_,.int _ _ _,rfl⟩
 by_cases h1024:1024 < cntB l
 ·
  rw[if_pos (.inr h1024)]
  (repeat first|simp(disch:=try exact dis1) only[evD,Nat.reduceBEq,Nat.reduceAdd,Nat.reduceLeDiff,fldP,dT,dF,zbH]|with_reducible first|intro _|refine aJ ?_)
  exact⟨_,.int _ _ _,rfl⟩
 rw[if_neg (by omega)]
 (repeat first|simp(disch:=try exact dis1) only[evD,Nat.reduceBEq,Nat.reduceAdd,Nat.reduceLeDiff,fldP,dF,zlA,tab,List.getD_cons_zero,List.getD_cons_succ]|with_reducible first|intro _|refine aJ ?_)
 refine zc (zg hsh rfl) ?_;generalize (!l.isEmpty&&l.all fun b=>zdq b.stmts l.length)=q
 cases q with
 |
  false =>
  (refine QV ?_;intros)
  exact⟨_,.int _ _ _,rfl⟩
 | true =>
 rw[if_pos rfl]
 (refine Ql ?_;intros)
 refine zk (fun i:Nat=>([(36,encL 2 Bl.cells l),(37,.int .i64 l.length),(38,.int .i64 i)],[])) 0 (fun i=>i≤l.length∧zi0 (l.drop i)=zi0 l) (fun i=>l.length - i) 0 ⟨Wc _,rfl⟩ (Ent.keep rfl fin5) ?_;rintro i ⟨hi,hgo⟩ wf;unfold zgo
 by_cases hl:i < l.length
 ·
  have hg:(l.map Bl.cells).getD i []=[.int .u32 l[i].addr,encL 8 St.cells l[i].stmts]:=zm hl;have hsl:=hs l[i] (We hl);rw[znr hl] at hgo
  (repeat first|simp(disch:=try exact dis1) only[evD,Nat.reduceBEq,Nat.reduceAdd,Nat.reduceLeDiff,fldP,dT,hg]|with_reducible first|intro _|refine aJ ?_)
  generalize l[i].stmts=m at hg hgo hsl;generalize l[i].addr=ad' at hg;refine zk (fun j:Nat=>([(36,encL 2 Bl.cells l),(37,.int .i64 l.length),(38,.int .i64 i),(43,encL 8 St.cells m),(44,.int .i64 m.length),(45,.int .i64 j)],[])) 0 (fun j=>j≤m.length∧zgN (m.drop j)=zgN m) (fun j=>m.length - j) 0 ⟨Wc _,rfl⟩ (Ent.tab [] [] rfl Qak Qak) ?_;rintro j ⟨hj,hgo2⟩ wf2;unfold zgA
  by_cases hm:j < m.length
  ·
   rw[znX hm] at hgo2
   (repeat first|simp(disch:=try exact dis1) only[evD,Nat.reduceBEq,Nat.reduceAdd,Nat.reduceLeDiff,fldP,dT,zm hm,St.len,St.eight,St.flat]|with_reducible first|intro _|refine aJ ?_)
   refine zc (zg (zn2 m[j]) rfl) ?_
   by_cases hx:m[j].check=0
   ·
    rw[if_neg (by omega)] at hgo2
    (refine Qk ?_;intros)
    exact⟨j+1,⟨by omega,hgo2⟩,by omega,(Ent.tab [] [] rfl Qak Qak)⟩
   ·
    rw[if_pos hx] at hgo2;rw[←hgo2,if_pos hx] at hgo;rw[←hgo]
    (repeat first|simp(disch:=try exact dis1) only[evD,Nat.reduceBEq,Nat.reduceAdd,Nat.reduceLeDiff,dT,zbH]|with_reducible first|intro _|refine aJ ?_)
    exact⟨_,.int _ _ _,rfl⟩
  ·
   rw[Wf (by omega),zgN] at hgo2;rw[←hgo2,if_neg (by omega)] at hgo
   (refine Qi ?_;intros)
   unfold zgm
   (refine Qa ?_;intros)
   exact⟨i+1,⟨by omega,hgo⟩,by omega,Ent.keep rfl fin5⟩
 rw[Wf (by omega),zi0] at hgo;rw[←hgo]
 (refine Qi ?_;intros)
 unfold zgt
 (refine QV ?_;intros)
 exact⟨_,.int _ _ _,rfl⟩
mutual
def zkh:Nd→Bool→Bool
 | .mk f _ l,b=>if (f.kind=7∨f.kind=8)∧b=false then true else zdK l (b||zhm f.kind)
def zdK:List Nd→Bool→Bool
 | [],_=>false
 | x::l,b=>zkh x b||zdK l b
end
theorem znE:∀(l:List Nd) (b:Bool),zdK l b=l.any (zkh · b)
 | [],b=>by rw[zdK];rfl
 | x::l,b=>by rw[zdK,znE l b];rfl
theorem flNB {b:Bool} {e:Nd}:([AV.agg (encN e),.bool b]).all AV.flat=true:=flN (r:=[.bool b]) rfl
structure PredN (fv:AV) (l:List Nd) (p:Nd→Bool):Prop where
 ex:∃f caps,fv=.fn (.func f) caps∧zc0 Tryz.prog f=true∧zr caps=true∧∀s∈l,zl Tryz.prog f ([.agg (encN s)]++caps) (·=.bool (p s))
theorem zto {fv:AV} {l:List Nd} {p:Nd→Bool} (hp:PredN fv l p) {s:Nd} (hs:s∈l) {H:AH} {nx:Nat} {k:AV→AH→Nat→Prop} (hk:k (.bool (p s)) H nx):zkr Tryz.prog fv [.agg (encN s)] H nx k:=by obtain⟨f,caps,rfl,hg,hf,hx⟩:=hp.ex;rw[zhy];refine⟨hg,zc (zg (hx s hs) ?_) hk⟩;simp only[List.cons_append,List.nil_append,List.all_cons,Wj];exact⟨by have:=flN (r:=[]) rfl (e:=s);simpa using this,zcG hf⟩
theorem zt5 {fv:AV} {l:List Nd} {p:Nd→Bool} (hp:PredN fv l p) {H H2:AH} {σ:Nat→Nat→Option (Nat × Nat × Nat)} {D:Nat→Nat→Prop} {t:Bool}:Vw H H2 σ D t fv fv:=by
 obtain⟨f,caps,rfl,hg,hf,hx⟩:=hp.ex
 refine .fn _ _ _ _ rfl fun i a b h1 h2=>?_
 rw[h1] at h2;cases h2;exact zcx (zbx hf h1)
theorem QW {p q:Prop}(k:q)(h:Im q p:=by(repeat first|simp(disch:=try exact dis1) only[evD,Nat.reduceBEq,Nat.reduceAdd,Nat.reduceLeDiff,zan] | ((with_reducible apply Im.i);intro _) | ((with_reducible apply Im.a);omega));exact Im.r):p:=h k
theorem zjU (l:List Nd) (fv:AV) (p:Nd→Bool) (hp:PredN fv l p):zl Tryz.prog zar [encL 5 encN l,fv] (·=.int .i64 (idxI (l.findIdx? p))):=by
 refine fn_x zc1 rfl ?_;unfold zbm;have hB:=hBig
 (refine Qa ?_;intros)
 refine zk (fun i:Nat=>([(0,encL 5 encN l),(1,fv),(7,.int .i64 l.length),(8,.int .i64 i)],[])) 0 (fun i=>i≤l.length∧∀j (h:j < l.length),j < i→p l[j]=false) (fun i=>l.length - i) 0 ⟨Wc _,fun j _ h=>by omega⟩ (Ent.keep rfl fin5) ?_;intro i ⟨hi,hno⟩ wf;unfold za5
 (refine Qa ?_;intros)
 (refine zy (fun h=>?_) (fun h=>?_))<;>(try simp only[dcd] at h)
 ·
  have hi':i < l.length:=by omega
  (repeat first|simp(disch:=try exact dis1) only[evD,Nat.reduceBEq,Nat.reduceAdd,Nat.reduceLeDiff,zm hi',zbR,zbe]|with_reducible first|intro _|refine aJ ?_)
  refine zto hp (We hi') ?_
  (refine Qa ?_;intros)
  (refine zy (fun h2=>?_) (fun h2=>?_))<;>(try simp only[dcd] at h2)
  ·
   (refine QW ?_;intros)
   have e:l.findIdx? p=some i:=by rw[Wk];exact⟨hi',h2,fun j hj=>by rw[hno j (by omega) hj];simp⟩
   rw[e];exact⟨_,.int _ _ _,rfl⟩
  ·
   (refine Qa ?_;intros)
   refine⟨i+1,⟨by omega,fun j hj hji=>?_⟩,by omega,Ent.keep rfl fin5⟩
   by_cases hje:j=i
   · subst hje;simpa using h2
   · exact hno j hj (by omega)
 ·
  unfold zaX
  (refine QW ?_;intros)
  have e:l.findIdx? p=none:=by rw[Wl];intro x hx;obtain⟨j,hj,rfl⟩:=List.mem_iff_getElem.1 hx;exact hno j hj (by omega)
  rw[e];exact⟨_,.int _ _ _,rfl⟩
theorem zyW {l:List Nd} {p:Nd→Bool}:decide (idxI (l.findIdx? p) ≥ 0)=l.any p:=by
 cases h:l.findIdx? p with
 |
  none =>
  have:=Wl.1 h;rw[decide_eq_false (by simp[idxI])];symm;rw[List.any_eq_false];intro x hx;rw[this x hx];simp
 |
  some i =>
  obtain⟨h1,h2,_⟩:=Wk.1 h;rw[decide_eq_true (by simp[idxI])];exact(zqA h1 h2).symm
theorem zcd (l:List Nd) (fv:AV) (p:Nd→Bool) (hp:PredN fv l p):zl Tryz.prog zB [encL 5 encN l,fv] (·=.bool (l.any p)):=by
 refine fn_x zcy rfl ?_;unfold zaW
 (refine Qa ?_;intros)
 refine zc (zM (D:=noR) (zjU l fv p hp) (.cons (zal rfl) (.cons (zt5 hp) .nil)) (.inl rfl)) ?_
 (repeat first|simp(disch:=try exact dis1) only[evD,Nat.reduceBEq,Nat.reduceAdd,Nat.reduceLeDiff,za1]|with_reducible first|intro _|refine aJ ?_)
 refine⟨_,.bool _ _,?_⟩;rw[←zyW]
theorem zju {H:AH} {f r g n:Nat} {c:List AV} (hg:H.get r 0=some (.row n [c] g)) (hc:c.all AV.flat0=true) (hn:c.length=n):Vw H [] nos allR false (.fn (.func f) [.ptr r 0 g 0 0]) (.fn (.func f) [encP n c]):=by
 refine .fn _ _ _ _ rfl fun i a b h1 h2=>?_
 match i with
 | 0=>cases h1;cases h2;exact zz3 trivial hg hc hn
 | i+1=>cases h1
theorem QX {p q:Prop}(k:q)(h:Im q p:=by(repeat first|simp(disch:=try exact dis1) only[evD,Nat.reduceBEq,Nat.reduceAdd,Nat.reduceLeDiff,zbR,zaH,zbe,encP] | ((with_reducible apply Im.i);intro _) | ((with_reducible apply Im.a);omega));exact Im.r):p:=h k
theorem Qm {p q:Prop}(k:q)(h:Im q p:=by(repeat first|simp(disch:=try exact dis1) only[evD,Nat.reduceBEq,Nat.reduceAdd,Nat.reduceLeDiff,fldP,dT,dF,zA] | ((with_reducible apply Im.i);intro _) | ((with_reducible apply Im.a);omega));exact Im.r):p:=h k
theorem zjS:∀(k:Nat) (e:Nd) (b:Bool),zav e≤k→zl Tryz.prog zb9 [.agg (encN e),.bool b] (·=.bool (!zkh e b)):=by
 intro k
 induction k with
 | zero=>intro e b h;obtain⟨_,_,l⟩:=e;rw[zav] at h;omega
 | succ k ih =>
 intro e b hk;obtain⟨⟨kd,bl,lb⟩,c,l⟩:=e;refine fn_x zjH rfl ?_;unfold zfi;have hB:=hBig;rw[zav] at hk;have hE:=zex ⟨kd,bl,lb⟩ c l;simp only at hE;rw[hE,zkh];simp only
 have hp:∀q:Bool,PredN (.fn (.func zbJ) [encP 1 [.bool q]]) l (zkh · q):=by
  intro q;refine⟨_,_,rfl,by kernel_rfl,rfl,fun s hs=>?_⟩;have hm:=zqU hs;refine fn_x ziL rfl ?_;unfold zep
  (refine QX ?_;intros)
  refine zc (zg (ih s q (by omega)) flNB) ?_
  (repeat first|simp(disch:=try exact dis1) only[evD,Nat.reduceBEq,Nat.reduceAdd,Nat.reduceLeDiff,zeb]|with_reducible first|intro _|refine aJ ?_)
  exact⟨_,.bool _ _,rfl⟩
 have stop:(kd=7∨kd=8)→b=false→(if (kd=7∨kd=8)∧b=false then true else zdK l (b||zhm kd))=true:=fun h1 h2=>if_pos ⟨h1,h2⟩
 have go:¬((kd=7∨kd=8)∧b=false)→(if (kd=7∨kd=8)∧b=false then true else zdK l (b||zhm kd))=zdK l (b||zhm kd):=fun h=>if_neg h
 have e0:kd≠4→kd≠5→zhm kd=false:=fun h4 h5=>by unfold zhm;exact decide_eq_false (by omega)
 have fin:∀(q:Bool),zl Tryz.prog zB [encL 5 encN l,.fn (.func zbJ) [encP 1 [.bool q]]] (·=.bool (zdK l q)):=by intro q;rw[znE];exact zcd l _ _ (hp q)
 cases b with
 |
  true =>
  rw[go (by simp),Bool.true_or];have fin1:=fin true;generalize zdK l true=R at fin1
  by_cases h7:kd=7
  ·
   (refine Qm ?_;intros)
   refine zc (zM (D:=allR) fin1 (.cons (zal rfl) (.cons (zju rfl rfl rfl) .nil)) (.inl rfl)) ?_
   (refine Qm ?_;intros)
   exact⟨_,.bool _ _,rfl⟩
  by_cases h8:kd=8
  ·
   (refine Qm ?_;intros)
   refine zc (zM (D:=allR) fin1 (.cons (zal rfl) (.cons (zju rfl rfl rfl) .nil)) (.inl rfl)) ?_
   (refine Qm ?_;intros)
   exact⟨_,.bool _ _,rfl⟩
  (refine Qm ?_;intros)
  refine zc (zM (D:=allR) fin1 (.cons (zal rfl) (.cons (zju rfl rfl rfl) .nil)) (.inl rfl)) ?_
  (refine Qm ?_;intros)
  exact⟨_,.bool _ _,rfl⟩
 |
  false =>
  by_cases h7:kd=7
  ·
   rw[stop (.inl h7) rfl]
   (refine Qm ?_;intros)
   exact⟨_,.bool _ _,rfl⟩
  by_cases h8:kd=8
  ·
   rw[stop (.inr h8) rfl]
   (refine Qm ?_;intros)
   exact⟨_,.bool _ _,rfl⟩
  rw[go (by omega),Bool.false_or];have finq:=fin (zhm kd);generalize zdK l (zhm kd)=R at finq;have hq:zhm kd=decide (kd=4∨kd=5):=rfl
  by_cases h4:kd=4
  ·
   rw[hq,decide_eq_true (.inl h4)] at finq
   (refine Qm ?_;intros)
   refine zc (zM (D:=allR) finq (.cons (zal rfl) (.cons (zju rfl rfl rfl) .nil)) (.inl rfl)) ?_
   (refine Qm ?_;intros)
   exact⟨_,.bool _ _,rfl⟩
  by_cases h5:kd=5
  ·
   rw[hq,decide_eq_true (.inr h5)] at finq
   (refine Qm ?_;intros)
   refine zc (zM (D:=allR) finq (.cons (zal rfl) (.cons (zju rfl rfl rfl) .nil)) (.inl rfl)) ?_
   (refine Qm ?_;intros)
   exact⟨_,.bool _ _,rfl⟩
  rw[e0 h4 h5] at finq
  (refine Qm ?_;intros)
  refine zc (zM (D:=allR) finq (.cons (zal rfl) (.cons (zju rfl rfl rfl) .nil)) (.inl rfl)) ?_
  (refine Qm ?_;intros)
  exact⟨_,.bool _ _,rfl⟩
def hasI (l:List Int) (t:Int):Bool:=l.any fun x=>decide (x=t)
mutual
def zlJ:Nd→List Int
 | .mk f _ l=>if f.kind=9 then [f.label] else zhQ l
def zhQ:List Nd→List Int
 | []=>[]
 | x::l=>zlJ x++zhQ l
end
theorem Qu {p q:Prop}(k:q)(h:Im q p:=by(repeat first|simp(disch:=try exact dis1) only[evD,Nat.reduceBEq,Nat.reduceAdd,Nat.reduceLeDiff,dF,za] | ((with_reducible apply Im.i);intro _) | ((with_reducible apply Im.a);omega));exact Im.r):p:=h k
theorem zkN (l:List Int) (t:Int):zl Tryz.prog zck [za l,.int .i64 t] (fun a=>∃n:Int,a=.int .i64 n∧decide (n ≥ 0)=hasI l t):=by
 refine fn_x zim rfl ?_;unfold zdA hasI;have hB:=hBig;generalize hR:(l.any fun x=>decide (x=t))=R
 (refine Qo ?_;intros)
 refine zk (fun i:Nat=>([(0,za l),(1,.int .i64 t),(7,.int .i64 l.length),(8,.int .i64 i)],[])) 0 (fun i=>i≤l.length∧((l.drop i).any fun x=>decide (x=t))=R) (fun i=>l.length - i) 0 ⟨Wc _,hR⟩ (Ent.keep rfl fin5) ?_;rintro i ⟨hi,hgo⟩ wf;unfold zcW
 by_cases hl:i < l.length
 ·
  rw[Wi hl,List.any_cons] at hgo
  by_cases hx:l[i]=t
  ·
   rw[decide_eq_true hx,Bool.true_or] at hgo;subst hgo;have hx2:decide (t=l[i])=true:=decide_eq_true hx.symm
   (repeat first|simp(disch:=try exact dis1) only[evD,Nat.reduceBEq,Nat.reduceAdd,Nat.reduceLeDiff,dT,hx2,za,zm hl,zcg]|with_reducible first|intro _|refine aJ ?_)
   exact⟨_,.int _ _ _,i,rfl,decide_eq_true (by omega)⟩
  ·
   rw[decide_eq_false hx,Bool.false_or] at hgo;have hx2:decide (t=l[i])=false:=decide_eq_false (fun h=>hx h.symm)
   (repeat first|simp(disch:=try exact dis1) only[evD,Nat.reduceBEq,Nat.reduceAdd,Nat.reduceLeDiff,dT,hx2,za,zm hl]|with_reducible first|intro _|refine aJ ?_)
   exact⟨i+1,⟨by omega,hgo⟩,by omega,Ent.keep rfl fin5⟩
 ·
  rw[Wf (by omega)] at hgo
  replace hgo:R=false:=by rw[←hgo];rfl
  subst hgo
  (refine Qu ?_;intros)
  unfold zcY
  (repeat first|simp(disch:=try exact dis1) only[evD,Nat.reduceBEq,Nat.reduceAdd,Nat.reduceLeDiff,zcg]|with_reducible first|intro _|refine aJ ?_)
  exact⟨_,.int _ _ _,-1,rfl,rfl⟩
theorem ziM (l:List Int) (t:Int):zl Tryz.prog zbM [za l,.int .i64 t] (·=.bool (hasI l t)):=by
 refine fn_x zgK rfl ?_;unfold zcZ;have hB:=hBig
 (refine Qa ?_;intros)
 refine zxA (D:=noR) (zkN l t) (.cons (zal rfl) (.cons (zal rfl) .nil)) (fun a ⟨n,h,_⟩=>.inl (by rw[h];rfl)) ?_;rintro _ ⟨n,rfl,hn⟩
 (repeat first|simp(disch:=try exact dis1) only[evD,Nat.reduceBEq,Nat.reduceAdd,Nat.reduceLeDiff,hn,zcX]|with_reducible first|intro _|refine aJ ?_)
 exact⟨_,.bool _ _,rfl⟩
def wOk (l:List Bl) (b:Int):Bool:=if b < 0 then false else match l[b.toNat]? with
 | none=>false
 | some x=>decide (x.stmts.length=1)
mutual
def zpS (g:List Bl):Nd→Bool
 | .mk f _ l=>if f.kind=5∧wOk g f.block=false then false else zjA g l
def zjA (g:List Bl):List Nd→Bool
 | []=>true
 | x::l=>zpS g x&&zjA g l
end
def zJ (kd bl lb:Int) (cn ln:Nat):Prop :=
 1≤kd∧kd≤12∧((kd=3∨kd=5∨kd=6)→cn=1)∧(kd=3∨kd=5∨kd=6∨cn=0) ∧
 (kd=1∨(kd=3∧ln=2)∨((kd=4∨kd=5)∧ln=1)∨(kd=6∧1≤ln∧ln≤64)∨((kd=2∨7≤kd)∧ln=0)) ∧
 (kd=2∨kd=5∨bl=0)∧(kd=9∨kd=10∨lb=0)∧0≤lb
instance (kd bl lb:Int) (cn ln:Nat):Decidable (zJ kd bl lb cn ln):=by unfold zJ;infer_instance
def zbE (kd bl lb:Int) (c:List Ex) (ln:Nat):Bool:=decide (zJ kd bl lb c.length ln)&&c.all fun e=>decide (zis e=0)
theorem noF {kd bl lb:Int} {c:List Ex} {n:Nat} (h:¬zJ kd bl lb c.length n):false=zbE kd bl lb c n:=by unfold zbE;rw[dF h];rfl
theorem yesF {kd bl lb:Int} {n:Nat} (h:zJ kd bl lb 0 n):zbE kd bl lb [] n=true:=by unfold zbE;rw[dT (show zJ kd bl lb ([]:List Ex).length n from h)];rfl
theorem yesX {kd bl lb:Int} {e:Ex} {n:Nat} (h:zJ kd bl lb 1 n):zbE kd bl lb [e] n=decide (zis e=0):=by unfold zbE;rw[dT (show zJ kd bl lb [e].length n from h)];simp
theorem hgX {e:Ex}:[encX e].getD (Int.toNat 0) []=encX e:=rfl
theorem Qe {p q:Prop}(k:q)(h:Im q p:=by(repeat first|simp(disch:=try exact dis1) only[evD,Nat.reduceBEq,Nat.reduceAdd,Nat.reduceLeDiff,dT,dF,fldP,zb] | ((with_reducible apply Im.i);intro _) | ((with_reducible apply Im.a);omega));exact Im.r):p:=h k
theorem zzC {kd bl lb:Int} {c:List Ex} {l:List Nd} (h:kd=7∨kd=8∨kd=11∨kd=12):zl Tryz.prog zD [.agg [.int .i64 kd,.int .i64 bl,.int .i64 lb,encL 5 encX c,encL 5 encN l]] (·=.bool (zbE kd bl lb c l.length)):=by
 refine fn_x zS rfl ?_;unfold zP;have hB:=hBig
 (refine Qe ?_;intros)
 by_cases q0:c.length=0<;>(refine Qe ?_;intros)
 case neg=>exact⟨_,.bool _ _,congrArg AV.bool (noF (by unfold zJ;omega))⟩
 by_cases q1:l.length=0<;>(refine Qe ?_;intros)
 case neg=>exact⟨_,.bool _ _,congrArg AV.bool (noF (by unfold zJ;omega))⟩
 by_cases q2:bl=0<;>(refine Qe ?_;intros)
 case neg=>exact⟨_,.bool _ _,congrArg AV.bool (noF (by unfold zJ;omega))⟩
 by_cases q3:lb=0<;>(refine Qe ?_;intros)
 case neg=>exact⟨_,.bool _ _,congrArg AV.bool (noF (by unfold zJ;omega))⟩
 obtain rfl:c=[]:=Wa q0;exact⟨_,.bool _ _,congrArg AV.bool (yesF (by unfold zJ;omega)).symm⟩
theorem zyV {kd bl lb:Int} {c:List Ex} {l:List Nd} (h:kd=2):zl Tryz.prog zD [.agg [.int .i64 kd,.int .i64 bl,.int .i64 lb,encL 5 encX c,encL 5 encN l]] (·=.bool (zbE kd bl lb c l.length)):=by
 refine fn_x zS rfl ?_;unfold zP;have hB:=hBig
 (refine Qe ?_;intros)
 by_cases q0:c.length=0<;>(refine Qe ?_;intros)
 case neg=>exact⟨_,.bool _ _,congrArg AV.bool (noF (by unfold zJ;omega))⟩
 by_cases q1:l.length=0<;>(refine Qe ?_;intros)
 case neg=>exact⟨_,.bool _ _,congrArg AV.bool (noF (by unfold zJ;omega))⟩
 by_cases q2:lb=0<;>(refine Qe ?_;intros)
 case neg=>exact⟨_,.bool _ _,congrArg AV.bool (noF (by unfold zJ;omega))⟩
 obtain rfl:c=[]:=Wa q0;exact⟨_,.bool _ _,congrArg AV.bool (yesF (by unfold zJ;omega)).symm⟩
theorem zyI {kd bl lb:Int} {c:List Ex} {l:List Nd} (h:kd=9):zl Tryz.prog zD [.agg [.int .i64 kd,.int .i64 bl,.int .i64 lb,encL 5 encX c,encL 5 encN l]] (·=.bool (zbE kd bl lb c l.length)):=by
 refine fn_x zS rfl ?_;unfold zP;have hB:=hBig
 (refine Qe ?_;intros)
 by_cases q0:c.length=0<;>(refine Qe ?_;intros)
 case neg=>exact⟨_,.bool _ _,congrArg AV.bool (noF (by unfold zJ;omega))⟩
 by_cases q1:l.length=0<;>(refine Qe ?_;intros)
 case neg=>exact⟨_,.bool _ _,congrArg AV.bool (noF (by unfold zJ;omega))⟩
 by_cases q2:bl=0<;>(refine Qe ?_;intros)
 case neg=>exact⟨_,.bool _ _,congrArg AV.bool (noF (by unfold zJ;omega))⟩
 by_cases q3:0≤lb<;>(refine Qe ?_;intros)
 case neg=>exact⟨_,.bool _ _,congrArg AV.bool (noF (by unfold zJ;omega))⟩
 obtain rfl:c=[]:=Wa q0;exact⟨_,.bool _ _,congrArg AV.bool (yesF (by unfold zJ;omega)).symm⟩
theorem zxr {kd bl lb:Int} {c:List Ex} {l:List Nd} (h:kd=10):zl Tryz.prog zD [.agg [.int .i64 kd,.int .i64 bl,.int .i64 lb,encL 5 encX c,encL 5 encN l]] (·=.bool (zbE kd bl lb c l.length)):=by
 refine fn_x zS rfl ?_;unfold zP;have hB:=hBig
 (refine Qe ?_;intros)
 by_cases q0:c.length=0<;>(refine Qe ?_;intros)
 case neg=>exact⟨_,.bool _ _,congrArg AV.bool (noF (by unfold zJ;omega))⟩
 by_cases q1:l.length=0<;>(refine Qe ?_;intros)
 case neg=>exact⟨_,.bool _ _,congrArg AV.bool (noF (by unfold zJ;omega))⟩
 by_cases q2:bl=0<;>(refine Qe ?_;intros)
 case neg=>exact⟨_,.bool _ _,congrArg AV.bool (noF (by unfold zJ;omega))⟩
 by_cases q3:0≤lb<;>(refine Qe ?_;intros)
 case neg=>exact⟨_,.bool _ _,congrArg AV.bool (noF (by unfold zJ;omega))⟩
 obtain rfl:c=[]:=Wa q0;exact⟨_,.bool _ _,congrArg AV.bool (yesF (by unfold zJ;omega)).symm⟩
theorem zyF {kd bl lb:Int} {c:List Ex} {l:List Nd} (h:kd=1):zl Tryz.prog zD [.agg [.int .i64 kd,.int .i64 bl,.int .i64 lb,encL 5 encX c,encL 5 encN l]] (·=.bool (zbE kd bl lb c l.length)):=by
 refine fn_x zS rfl ?_;unfold zP;have hB:=hBig
 (refine Qe ?_;intros)
 by_cases q0:c.length=0<;>(refine Qe ?_;intros)
 case neg=>exact⟨_,.bool _ _,congrArg AV.bool (noF (by unfold zJ;omega))⟩
 by_cases q1:bl=0<;>(refine Qe ?_;intros)
 case neg=>exact⟨_,.bool _ _,congrArg AV.bool (noF (by unfold zJ;omega))⟩
 by_cases q2:lb=0<;>(refine Qe ?_;intros)
 case neg=>exact⟨_,.bool _ _,congrArg AV.bool (noF (by unfold zJ;omega))⟩
 obtain rfl:c=[]:=Wa q0;exact⟨_,.bool _ _,congrArg AV.bool (yesF (by unfold zJ;omega)).symm⟩
theorem zy5 {kd bl lb:Int} {c:List Ex} {l:List Nd} (h:kd=4):zl Tryz.prog zD [.agg [.int .i64 kd,.int .i64 bl,.int .i64 lb,encL 5 encX c,encL 5 encN l]] (·=.bool (zbE kd bl lb c l.length)):=by
 refine fn_x zS rfl ?_;unfold zP;have hB:=hBig
 (refine Qe ?_;intros)
 by_cases q0:c.length=0<;>(refine Qe ?_;intros)
 case neg=>exact⟨_,.bool _ _,congrArg AV.bool (noF (by unfold zJ;omega))⟩
 by_cases q1:l.length=1<;>(refine Qe ?_;intros)
 case neg=>exact⟨_,.bool _ _,congrArg AV.bool (noF (by unfold zJ;omega))⟩
 by_cases q2:bl=0<;>(refine Qe ?_;intros)
 case neg=>exact⟨_,.bool _ _,congrArg AV.bool (noF (by unfold zJ;omega))⟩
 by_cases q3:lb=0<;>(refine Qe ?_;intros)
 case neg=>exact⟨_,.bool _ _,congrArg AV.bool (noF (by unfold zJ;omega))⟩
 obtain rfl:c=[]:=Wa q0;exact⟨_,.bool _ _,congrArg AV.bool (yesF (by unfold zJ;omega)).symm⟩
theorem QG {p q:Prop}(k:q)(h:Im q p:=by(repeat first|simp(disch:=try exact dis1) only[evD,Nat.reduceBEq,Nat.reduceAdd,Nat.reduceLeDiff,hgX,zbP,zbp,zb] | ((with_reducible apply Im.i);intro _) | ((with_reducible apply Im.a);omega));exact Im.r):p:=h k
theorem zyv {kd bl lb:Int} {c:List Ex} {l:List Nd} (h:kd=3):zl Tryz.prog zD [.agg [.int .i64 kd,.int .i64 bl,.int .i64 lb,encL 5 encX c,encL 5 encN l]] (·=.bool (zbE kd bl lb c l.length)):=by
 refine fn_x zS rfl ?_;unfold zP;have hB:=hBig
 (refine Qe ?_;intros)
 by_cases q0:c.length=1
 case neg =>
  (refine Qe ?_;intros)
  exact⟨_,.bool _ _,congrArg AV.bool (noF (by unfold zJ;omega))⟩
 obtain⟨e,rfl⟩:∃e,c=[e]:=Wg.1 q0
 (refine Qe ?_;intros)
 by_cases q1:l.length=2<;>(refine Qe ?_;intros)
 case neg=>exact⟨_,.bool _ _,congrArg AV.bool (noF (by unfold zJ;omega))⟩
 by_cases q2:bl=0<;>(refine Qe ?_;intros)
 case neg=>exact⟨_,.bool _ _,congrArg AV.bool (noF (by unfold zJ;omega))⟩
 by_cases q3:lb=0<;>(refine Qe ?_;intros)
 case neg=>exact⟨_,.bool _ _,congrArg AV.bool (noF (by unfold zJ;omega))⟩
 (refine QG ?_;intros)
 refine zc (zg (zdT e) (flX rfl)) ?_
 (refine Qe ?_;intros)
 exact⟨_,.bool _ _,congrArg AV.bool (yesX (by unfold zJ;omega)).symm⟩
theorem zAq {kd bl lb:Int} {c:List Ex} {l:List Nd} (h:kd=5):zl Tryz.prog zD [.agg [.int .i64 kd,.int .i64 bl,.int .i64 lb,encL 5 encX c,encL 5 encN l]] (·=.bool (zbE kd bl lb c l.length)):=by
 refine fn_x zS rfl ?_;unfold zP;have hB:=hBig
 (refine Qe ?_;intros)
 by_cases q0:c.length=1
 case neg =>
  (refine Qe ?_;intros)
  exact⟨_,.bool _ _,congrArg AV.bool (noF (by unfold zJ;omega))⟩
 obtain⟨e,rfl⟩:∃e,c=[e]:=Wg.1 q0
 (refine Qe ?_;intros)
 by_cases q1:l.length=1<;>(refine Qe ?_;intros)
 case neg=>exact⟨_,.bool _ _,congrArg AV.bool (noF (by unfold zJ;omega))⟩
 by_cases q2:lb=0<;>(refine Qe ?_;intros)
 case neg=>exact⟨_,.bool _ _,congrArg AV.bool (noF (by unfold zJ;omega))⟩
 (refine QG ?_;intros)
 refine zc (zg (zdT e) (flX rfl)) ?_
 (refine Qe ?_;intros)
 exact⟨_,.bool _ _,congrArg AV.bool (yesX (by unfold zJ;omega)).symm⟩
theorem zy0 {kd bl lb:Int} {c:List Ex} {l:List Nd} (h:kd=6):zl Tryz.prog zD [.agg [.int .i64 kd,.int .i64 bl,.int .i64 lb,encL 5 encX c,encL 5 encN l]] (·=.bool (zbE kd bl lb c l.length)):=by
 refine fn_x zS rfl ?_;unfold zP;have hB:=hBig
 (refine Qe ?_;intros)
 by_cases q0:c.length=1
 case neg =>
  (refine Qe ?_;intros)
  exact⟨_,.bool _ _,congrArg AV.bool (noF (by unfold zJ;omega))⟩
 obtain⟨e,rfl⟩:∃e,c=[e]:=Wg.1 q0
 (refine Qe ?_;intros)
 by_cases q1:1≤l.length<;>(refine Qe ?_;intros)
 case neg=>exact⟨_,.bool _ _,congrArg AV.bool (noF (by unfold zJ;omega))⟩
 by_cases q2:l.length≤64<;>(refine Qe ?_;intros)
 case neg=>exact⟨_,.bool _ _,congrArg AV.bool (noF (by unfold zJ;omega))⟩
 by_cases q3:bl=0<;>(refine Qe ?_;intros)
 case neg=>exact⟨_,.bool _ _,congrArg AV.bool (noF (by unfold zJ;omega))⟩
 by_cases q4:lb=0<;>(refine Qe ?_;intros)
 case neg=>exact⟨_,.bool _ _,congrArg AV.bool (noF (by unfold zJ;omega))⟩
 (refine QG ?_;intros)
 refine zc (zg (zdT e) (flX rfl)) ?_
 (refine Qe ?_;intros)
 exact⟨_,.bool _ _,congrArg AV.bool (yesX (by unfold zJ;omega)).symm⟩
theorem zxZ {kd bl lb:Int} {c:List Ex} {l:List Nd} (h:kd < 1):zl Tryz.prog zD [.agg [.int .i64 kd,.int .i64 bl,.int .i64 lb,encL 5 encX c,encL 5 encN l]] (·=.bool (zbE kd bl lb c l.length)):=by
 refine fn_x zS rfl ?_;unfold zP;have hB:=hBig
 (refine Qe ?_;intros)
 exact⟨_,.bool _ _,congrArg AV.bool (noF (by unfold zJ;omega))⟩
theorem zwg {kd bl lb:Int} {c:List Ex} {l:List Nd} (h:12 < kd):zl Tryz.prog zD [.agg [.int .i64 kd,.int .i64 bl,.int .i64 lb,encL 5 encX c,encL 5 encN l]] (·=.bool (zbE kd bl lb c l.length)):=by
 refine fn_x zS rfl ?_;unfold zP;have hB:=hBig
 (refine Qe ?_;intros)
 exact⟨_,.bool _ _,congrArg AV.bool (noF (by unfold zJ;omega))⟩
theorem zku (kd bl lb:Int) (c:List Ex) (l:List Nd):zl Tryz.prog zD [.agg [.int .i64 kd,.int .i64 bl,.int .i64 lb,encL 5 encX c,encL 5 encN l]] (·=.bool (zbE kd bl lb c l.length)):=by
 rcases Int.lt_or_le kd 1 with h|h
 · exact zxZ h
 rcases Int.lt_or_le 12 kd with h2|h2
 · exact zwg h2
 by_cases ha:kd=7∨kd=8∨kd=11∨kd=12
 · exact zzC ha
 by_cases hb:kd=2
 · exact zyV hb
 by_cases hc:kd=9
 · exact zyI hc
 by_cases hc2:kd=10
 · exact zxr hc2
 by_cases hd:kd=1
 · exact zyF hd
 by_cases he:kd=4
 · exact zy5 he
 by_cases hf:kd=3
 · exact zyv hf
 by_cases hg:kd=5
 · exact zAq hg
 exact zy0 (by omega)
end Go.Ab
namespace Go.Ab
open Go.RowKit Go.Proofs
def zg7:ACode:=.seq (.region [ Yaa,Yah] [0,2]) (.seq (.region [ (oA 3 2 1),(oN 4 (.call zgC [(.t 3)])),(oN 5 (.call zcU [(.t 4),(.c (.int .i64 0))])),(oM 2 5)] [1,3,4,5]) (.ret))
def zdC:List ARet:=[.tmp 2]
theorem zlv:zT Tryz.prog zet (qRo [1])=some (zg7.strip,zdC,6):=by kernel_rfl
def zdh:ACode:=.seq (.region [ (oB 14 .lss 13 12)] []) (.seq (.cond (.t 14) (.skip) (.exit 0)) (.seq (.block 1 (.seq (.region [ (oI 15 1 11 13),(oL 16 15),(oM 5 16)] [14,15,16]) (.region [ (oM 17 3),(oM 18 5),(oI 19 1 17 18),⟨none,.store 1 (.t 19) (.c (.bool true)),none⟩] [5,17,18,19]))) (.region [ (oC 20 .add 13 1),(oM 13 20)] [20])))
def zdd:ACode:=.seq (.region [ (oM 21 3),(oM 2 21)] [3,11,12,13,21]) (.ret)
def zee:ACode:=.seq (.region [ Yaa,Yah] [0,2]) (.seq (.region [ (oF 6 1 1 1),(oL 7 6),(oE 8 7),(oN 9 (.mksl 1 1 [.bool false] (.t 8) (.t 8))),(oM 3 9)] [6,7,8,9]) (.seq (.seq (.region [ (oA 10 2 1),(oN 11 (.call zet [(.t 10)])),(oE 12 11),(oK 13 0)] [1,10]) (.block 0 (.loop zdh))) (zdd)))
def zd8:List ARet:=[.tmp 2]
theorem ziO:zT Tryz.prog zcE (qRo [1])=some (zee.strip,zd8,22):=by kernel_rfl
def zgj:ACode:=.seq (.region [ (oB 13 .lss 12 11)] []) (.seq (.cond (.t 13) (.skip) (.exit 0)) (.seq (.block 1 (.seq (.region [ (oM 14 12),(oM 4 14)] [13,14]) (.region [ (oM 15 3),(oM 16 4),(oA 17 2 1),(oM 18 4),(oN 19 (.call zeF [(.t 17),(.t 18)])),(oI 20 1 15 16),(oS 1 20 19)] [4,15,16,17,18,19,20]))) (.region [ (oC 21 .add 12 1),(oM 12 21)] [21])))
def zf8:ACode:=.seq (.region [ (oM 22 3),(oM 2 22)] [1,3,11,12,22]) (.ret)
def ziz:ACode:=.seq (.region [ Yaa,Yah] [0,2]) (.seq (.region [ (oF 5 1 1 1),(oL 6 5),(oE 7 6),(oN 8 (.mksl 1 24 [.nilsl] (.t 7) (.t 7))),(oM 3 8)] [5,6,7,8]) (.seq (.seq (.region [ (oF 9 1 1 1),(oL 10 9),(oE 11 10),(oK 12 0)] [9,10]) (.block 0 (.loop zgj))) (zf8)))
def zio:List ARet:=[.tmp 2]
theorem zm3:zT Tryz.prog zgC (qRo [1])=some (ziz.strip,zio,23):=by kernel_rfl
def zdB:ACode:=.seq (.region [ Yaj,Yam] [0,4]) (.seq (.seq (.region [ (oM 8 1),(oL 9 2),(oE 10 9),(oB 11 .geq 8 10)] [8,9,10]) (.cond (.t 11) (.seq (.region [ Yam] [1,2,11]) (.ret)) (.skip))) (.seq (.region [ (oL 12 2),(oE 13 12),(oN 14 (.mksl 1 1 [.bool false] (.t 13) (.t 13))),(oN 5 (.alloc [.nilsl])),(oS 1 5 14)] [4,11,12,13,14]) (.seq (.region [ (oN 6 (.alloc [.nilsl]))] []) (.seq (.region [ (oN 7 (.alloc [.nilfn]))] []) (.seq (.region [ (oN 15 (.mkfn (.func zca) [(.t 5),(.t 2),(.t 7),(.t 6)])),(oS 1 7 15)] [2,5,15]) (.seq (.region [ (oL 16 7),(oM 17 1),(oN 18 (.callv (.t 16) [(.t 17)]))] [1,7,16,17,18]) (.seq (.region [ (oL 19 6),(oN 20 (.call zb0 [(.t 19)]))] [19,20]) (.seq (.region [ (oL 21 6),(oM 4 21)] [6,21]) (.ret)))))))))
def zdY:List ARet:=[.tmp 4]
theorem zhb:zT Tryz.prog zcU (qRo [2])=some (zdB.strip,zdY,22):=by kernel_rfl
def zeQ:ACode:=.seq (.region [ (oM 42 7),(oN 43 (.mkfn (.func zce) [(.t 2)])),(oN 44 (.call zbw [(.t 42),(.t 43)])),(oM 4 44)] [2,6,7,37,42,43,44]) (.ret)
def zhe:ACode:=.seq (.region [ Yaj,Yam] [0,4]) (.seq (.region [ (oF 8 1 1 2),(oL 9 8),(oM 10 1),(oI 11 2 9 10),(oF 12 1 1 11),(oL 13 12),(oM 5 13)] [1,8,9,10,11,12,13]) (.seq (.seq (.region [ (oM 14 5),(oE 15 14),(oC 16 .eql 15 0)] [14,15]) (.cond (.t 16) (.seq (.region [ Yam] [2,5,16]) (.ret)) (.skip))) (.seq (.region [ (oM 17 5),(oM 18 5),(oE 19 18),(oC 20 .sub 19 1),(oI 21 8 17 20),(oA 22 8 21),(oN 6 (.alloc [.int .i64 0,.int .i64 0,.int .i64 0,.int .i64 0,.int .i64 0,.int .u32 0,.nilsl,.nilsl])),(oS 8 6 22)] [4,5,16,17,18,19,20,21,22]) (.seq (.region [ (oN 7 (.mknil 1))] []) (.join (.seq (.region [ (oF 23 0 1 6),(oL 24 23)] [23]) (.block 0 (.seq (.region [ (oC 26 .eql 24 6),(oM 25 26)] [26]) (.cond (.t 25) (.region [ (oF 27 3 1 6),(oL 28 27),(oN 29 (.buildSl 1 1 [.int .i64 0] [(0,(.t 28))])),(oM 7 29)] [6,24,25,27,28,29]) (.seq (.region [ (oC 31 .eql 24 7),(oM 30 31)] [25,31]) (.cond (.t 30) (.region [ (oF 32 3 1 6),(oL 33 32),(oF 34 4 1 6),(oL 35 34),(oN 36 (.buildSl 1 2 [.int .i64 0] [(0,(.t 33)),(1,(.t 35))])),(oM 7 36)] [6,24,30,32,33,34,35,36]) (.seq (.region [ (oC 38 .eql 24 8),(oM 37 38)] [24,30,38]) (.cond (.t 37) (.region [ (oF 39 7 1 6),(oL 40 39),(oN 41 (.call zw [(.t 40)])),(oM 7 41)] [6,37,39,40,41]) (.skip))))))))) (zeQ))))))
def zdU:List ARet:=[.tmp 4]
theorem zlb:zT Tryz.prog zeF (qRo [2])=some (zhe.strip,zdU,45):=by kernel_rfl
def zdM:ACode:=.seq (.region [ (oB 17 .lss 16 15)] []) (.seq (.cond (.t 17) (.skip) (.exit 0)) (.seq (.block 1 (.seq (.region [ (oI 18 1 14 16),(oL 19 18),(oM 7 19)] [17,18,19]) (.seq (.region [ (oL 20 1),(oM 21 7),(oI 22 1 20 21),(oL 23 22),(oN 24 (.un .not (.t 23)))] [20,21,22,23]) (.cond (.t 24) (.region [ (oL 25 3),(oM 26 7),(oN 27 (.callv (.t 25) [(.t 26)]))] [7,24,25,26,27]) (.skip))))) (.region [ (oC 28 .add 16 1),(oM 16 28)] [7,24,28])))
def zdO:ACode:=.region [ (oL 29 4),(oM 30 0),(oN 31 (.buildSl 1 1 [.int .i64 0] [(0,(.t 30))])),(oN 32 (.append 1 8 (.t 29) (.t 31))),(oS 1 4 32)] [0,1,3,4,14,15,16,29,30,31,32]
def zfL:ACode:=.seq (.region [ (oL 8 1),(oM 9 0),(oI 10 1 8 9),⟨none,.store 1 (.t 10) (.c (.bool true)),none⟩] [8,9,10]) (.seq (.seq (.region [ (oL 11 2),(oM 12 0),(oI 13 1 11 12),(oL 14 13),(oE 15 14),(oK 16 0)] [2,11,12,13]) (.block 0 (.loop zdM))) (zdO))
def zfJ:List ARet:=[]
theorem zjZ:zT Tryz.prog zca (qRo [])=some (zfL.strip,zfJ,33):=by kernel_rfl
def zcu:ACode:=.seq (.seq (.region [ (oM 7 2),(oM 8 3),(oB 9 .lss 7 8)] [7,8]) (.cond (.t 9) (.skip) (.exit 0))) (.seq (.block 1 (.draw ( .step (oM 14 0) ( .step (oM 15 2) ( .step (oM 16 0) ( .step (oM 17 3) ( .step (oM 18 0) ( .step (oM 19 3) ( .step (oI 20 1 18 19) ( .step (oL 21 20) ( .step (oM 22 0) ( .step (oM 23 2) ( .alt (oI 24 1 22 23) ( .step (oL 25 24) ( .step (oI 26 1 14 15) ( .alt (oS 1 26 21) ( .step (oI 27 1 16 17) ( .alt (oS 1 27 25) ( .done) ( .stop))) ( .stop)))) ( .stop)))))))))))) [9,14,15,16,17,18,19,20,21,22,23,24,25,26,27])) (.region [ (oM 10 2),(oC 11 .add 10 1),(oM 12 3),(oC 13 .sub 12 1),(oM 2 11),(oM 3 13)] [10,11,12,13]))
def zc9:ACode:=.seq (.region [ (oM 4 0),(oE 5 4),(oC 6 .sub 5 1),(oK 2 0),(oM 3 6)] [4,5,6]) (.block 0 (.loop zcu))
def zdc:List ARet:=[]
theorem zhj:zT Tryz.prog zb0 (qRo [])=some (zc9.strip,zdc,28):=by kernel_rfl
def zbZ:ACode:=.seq (.seq (.region [ (oM 16 6),(oM 17 0),(oE 18 17),(oB 19 .lss 16 18)] [16,17,18]) (.cond (.t 19) (.skip) (.exit 0))) (.seq (.block 1 (.seq (.region [ (oM 22 0),(oM 23 6),(oI 24 1 22 23),(oL 25 24),(oM 7 25)] [19,22,23,24,25]) (.seq (.region [ (oM 26 1),(oM 27 7),(oN 28 (.callv (.t 26) [(.t 27)])),(oN 29 (.un .not (.t 28)))] [26,27,28]) (.cond (.t 29) (.seq (.region [ (oM 30 0),(oM 31 5),(oM 32 7),(oI 33 1 30 31),(oS 1 33 32)] [7,29,30,31,32,33]) (.region [ (oM 34 5),(oC 35 .add 34 1),(oM 5 35)] [34,35])) (.skip))))) (.region [ (oM 20 6),(oC 21 .add 20 1),(oM 6 21)] [7,20,21,29]))
def zb1:ACode:=.seq (.region [ (oM 36 0),(oM 37 5),(oN 38 (.slice 1 (.t 36) (some (.t 37)) none)),⟨none,.clear 1 [.int .i64 0] (.t 38),none⟩] [1,6,36,37,38]) (.seq (.region [ (oM 39 0),(oM 40 5),(oN 41 (.slice 1 (.t 39) none (some (.t 40)))),(oM 4 41)] [0,5,39,40,41]) (.ret))
def zcr:ACode:=.seq (.region [ Yam] [4]) (.seq (.region [ (oM 8 0),(oM 9 1),(oN 10 (.call zaj [(.t 8),(.t 9)])),(oM 5 10)] [8,9,10]) (.seq (.seq (.region [ (oM 11 5),(oC 12 .eql 11 (-1))] [11]) (.cond (.t 12) (.seq (.region [ (oM 13 0),(oM 4 13)] [0,1,5,12,13]) (.ret)) (.skip))) (.seq (.seq (.region [ (oM 14 5),(oC 15 .add 14 1),(oM 6 15)] [4,12,14,15]) (.block 0 (.loop zbZ))) (zb1))))
def zbs:List ARet:=[.tmp 4]
theorem zfP:zT Tryz.prog zbw (qRo [])=some (zcr.strip,zbs,42):=by kernel_rfl
def zfv:ACode:=.seq (.region [ Yap] [3]) (.seq (.region [ (oM 4 0),(oC 5 .lss 4 0),(oM 6 5),(oG 7 6 false (.mov (.t 0))),(oG 8 6 false (.fldaddr 1 1 (.t 1))),(oG 9 6 false (.load false 1 (.t 8))),(oG 10 6 false (.len (.t 9))),(oG 11 6 false (.bin .geq (.t 7) (.t 10))),(oN 12 (.pick (.t 6) (.c (.bool true)) (.t 11))),(oM 3 12)] [0,1,4,5,6,7,8,9,10,11,12]) (.ret))
def zc3:List ARet:=[.tmp 3]
theorem zjW:zT Tryz.prog zce (qRo [])=some (zfv.strip,zc3,13):=by kernel_rfl
end Go.Ab
namespace Go.Ab.Dm
open Go.RowKit Go.Proofs
theorem zm {α β:Type} {f:α→β} {l:List α} {i:Nat} {d:β} (h:i < l.length):(l.map f).getD i d=f l[i]:=zfQ (Wh h)
def ziA (n:Nat) (x:Int):Bool:=decide (0≤x)&&decide (x < n)
def _root_.Go.Ab.Gr.E (g:Gr):Adj:=g.blocks.map fun b=>(b.targets.filter (ziA g.blocks.length)).map Int.toNat
def _root_.Go.Ab.Gr.small (g:Gr):Prop:=g.blocks.length≤1000∧∀b∈g.blocks,b.targets.length≤1000
theorem _root_.Go.Ab.Gr.E_len (g:Gr):g.E.length=g.blocks.length:=by simp[Gr.E]
theorem _root_.Go.Ab.Gr.E_ok (g:Gr):g.E.ok:=by
 intro k n hn;unfold suc Gr.E at hn;rw[Wm,List.getElem?_map] at hn
 cases hb:g.blocks[k]? with
 | none=>rw[hb] at hn;simp at hn
 |
  some b =>
  rw[hb] at hn;simp only[Option.map_some,Option.getD_some,List.mem_map,List.mem_filter,ziA,Wj,decide_eq_true_eq] at hn;obtain⟨x,⟨_,h1,h2⟩,rfl⟩:=hn;rw[g.E_len];omega
theorem zq0 (l:List Nat):za (l.map fun(n:Nat)=>(n:Int))=zbF l:=by simp[za,zbF,encL];rfl
theorem zdl {α:Type} {p:α→Bool} {l:List α} {i:Nat} (h:i < l.length):(l.take (i+1)).filter p=(l.take i).filter p++if p l[i] then [l[i]] else []:=by
 rw[Wn,Wh h,Wo]
 cases hp:p l[i]<;>simp[List.filter,hp]
structure NdL (n:Nat) (l:List Nat):Prop where
 nd:l.Nodup
 lt:∀b∈l,b < n
theorem NdL.len {n:Nat} {l:List Nat} (h:NdL n l):l.length≤n:=by
 obtain⟨h1,h2⟩:=h
 induction n generalizing l with
 |
  zero =>
  cases l with
  | nil=>exact Nat.le_refl _
  | cons b l=>exact absurd (h2 b (by simp)) (by omega)
 |
  succ n ih =>
  by_cases hn:n∈l
  ·
   have:=ih (h1.erase n) (fun b hb=>by
    have h3:=h2 b (List.mem_of_mem_erase hb);have h4:=(h1.mem_erase_iff.1 hb).1
    omega)
   rw[List.length_erase_of_mem hn] at this;omega
  ·
   have:=ih h1 (fun b hb=>by
    have h3:=h2 b hb
    have h4:b≠n:=fun e=>hn (e▸hb)
    omega)
   omega
theorem NdL.add {n:Nat} {l:List Nat} (h:NdL n l) {x:Int} {c:Nat} (hc:c < n):NdL n (zer x l c):=by
 unfold zer;split
 ·
  rename_i hx;refine⟨?_,fun b hb=>?_⟩
  · rw[Wp];exact⟨h.nd,by simp,fun a ha b hb=>by simp at hb;subst hb;exact fun e=>hx.2 (e▸ha)⟩
  ·
   rcases List.mem_append.1 hb with hb|hb
   · exact h.lt b hb
   · simp at hb;subst hb;exact hc
 · exact h
theorem NdL.fold {n:Nat} {x:Int}:∀ {cs l:List Nat},NdL n l→(∀c∈cs,c < n)→NdL n (cs.foldl (zer x) l)
 | [],l,h,_=>h
 | c::cs,l,h,hc=>show NdL n (cs.foldl (zer x) (zer x l c)) from NdL.fold (x:=x) (h.add (x:=x) (hc c (by simp))) (fun d hd=>hc d (by simp[hd]))
theorem zjq {α β:Type} {f:β→α→β} {b:β} {l:List α} {i:Nat} (h:i < l.length):(l.take (i+1)).foldl f b=f ((l.take i).foldl f b) l[i]:=by rw[Wn,Wh h,List.foldl_append];rfl
theorem zhO (p:Nat→Bool) (n:Nat):(Wd (n+1)).filter p=(Wd n).filter p++if p n then [n] else []:=by
 rw[List.range_succ,Wo]
 cases h:p n<;>simp[List.filter,h]
theorem zm2 (p:Nat→Bool) (n:Nat):((Wd n).filter p).length≤n:=by
 have:=List.length_filter_le p (Wd n)
 simpa using this
def mapR {α:Type} (f:Nat→α) (n:Nat):List α:=(Wd n).map f
def filR (p:Nat→Bool) (n:Nat):List Nat:=(Wd n).filter p
theorem zy7 {α:Type} {f:Nat→α} {n:Nat}:(mapR f n).length=n:=by simp[mapR]
theorem zuG {p:Nat→Bool} {n:Nat} (h:p n=true):filR p (n+1)=filR p n++[n]:=by unfold filR;rw[zhO,h];rfl
theorem zqy {p:Nat→Bool} {n:Nat} (h:p n=false):filR p (n+1)=filR p n:=by unfold filR;rw[zhO,h];simp
theorem zwh {p:Nat→Bool} {n:Nat}:(filR p n).length≤n:=zm2 p n
def zmM (A:List (List Nat)):AV:=encL 1 (fun r=>[zbF r]) A
abbrev cNs (l:List Nat):List AV:=[zbF l]
theorem vw_NN {H H2:AH} {σ:Nat→Nat→Option (Nat × Nat × Nat)} {D:Nat→Nat→Prop} {t:Bool} {r q g:Nat} {l:List (List Nat)} (hD:D r q) (hg:H.get r q=some (.row 1 (l.map cNs) g)) (hb:l.length≤big) :
  Vw H H2 σ D t (.own r q g 0 l.length) (zmM l):=by
 refine zos hD hg hb (fun a _ j hj=>?_)
 obtain rfl:j=0:=by omega
 exact .sl _ _ _ _
def zcl (E:Adj) (f:Nat) (s:List Nat × List Nat) (n:Nat):List Nat × List Nat:=if n∈s.1 then s else dfs E f n s
theorem zqL (E:Adj) (f k:Nat) (s:List Nat × List Nat) :
  dfs E (f+1) k s=(((suc E k).foldl (zcl E f) (s.1++[k],s.2)).1,((suc E k).foldl (zcl E f) (s.1++[k],s.2)).2++[k]):=rfl
structure DfsI (n m d:Nat) (s:List Nat × List Nat):Prop where
 nd:NdL n s.1
 le:m≤s.1.length
 post:s.1.length=s.2.length+d
theorem NdL.snoc {n:Nat} {l:List Nat} (h:NdL n l) {k:Nat} (hk:k < n) (hn:k∉l):NdL n (l++[k]):=by
 refine⟨?_,fun b hb=>?_⟩
 · rw[Wp];exact⟨h.nd,by simp,fun a ha b hb=>by simp at hb;subst hb;exact fun e=>hn (e▸ha)⟩
 ·
  rcases List.mem_append.1 hb with hb|hb
  · exact h.lt b hb
  · simp at hb;subst hb;exact hk
theorem zkw {E:Adj} {f m d:Nat} (h:∀(k:Nat) (s:List Nat × List Nat),DfsI E.length m d s→k < E.length→k∉s.1→DfsI E.length m d (dfs E f k s)) :
  ∀(cs:List Nat) (t:List Nat × List Nat),(∀c∈cs,c < E.length)→DfsI E.length m d t→DfsI E.length m d (cs.foldl (zcl E f) t)
 | [],t,_,ht=>ht
 |
  c::cs,t,hc,ht=>by
  refine zkw h cs (zcl E f t c) (fun d hd=>hc d (by simp[hd])) ?_;unfold zcl;split
  · exact ht
  · exact h c t ht (hc c (by simp)) ‹_›
theorem znN {E:Adj} (hE:E.ok):∀(f m d k:Nat) (s:List Nat × List Nat),DfsI E.length m d s→k < E.length→k∉s.1→DfsI E.length m d (dfs E f k s)
 | 0,_,_,_,_,h,_,_=>h
 |
  f+1,m,d,k,s,h,hk,hn=>by
  rw[zqL];have:=zkw (znN hE f m (d+1)) (suc E k) (s.1++[k],s.2) (hE k) ⟨h.nd.snoc hk hn,by have:=h.le;simp;omega,by have:=h.post;simp;omega⟩;exact⟨this.nd,this.le,by have:=this.post;simp;omega⟩
theorem zBs {A:List (List Nat)} {i:Nat} (h:i < A.length):suc A i=A[i]:=by simp[suc,Wm,h]
end Go.Ab.Dm
