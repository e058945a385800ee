/-
  Part 10 of the proof: how the calls of this program run, over values instead of memory, and what each function computes.
-/
import Derived.KernelRfl
import Derived.Test.YtjcbhpmmngfmeaaGreatKi
set_option maxRecDepth 100000
set_option linter.unusedVariables false
set_option linter.unusedSimpArgs false
set_option linter.unnecessarySimpa false
set_option linter.unusedSectionVars false
open List renaming eq_nil_of_length_eq_zero→Wa,range→Wd,getElem_mem→We,drop_of_length_le→Wf,length_eq_one_iff→Wg,getElem?_eq_getElem→Wh,drop_eq_getElem_cons→Wi,findIdx?_eq_some_iff_getElem→Wk,findIdx?_eq_none_iff→Wl,getD_eq_getElem?_getD→Wm,take_add_one→Wn,filter_append→Wo,nodup_append→Wp
open Nat renaming zero_le→Wc
open Bool renaming and_eq_true→Wj
namespace Go.Ab
open Go.RowKit Go.Proofs
theorem Qx {p q:Prop}(k:q)(h:Im q p:=by(repeat first|simp(disch:=try exact dis1) only[evD,Nat.reduceBEq,Nat.reduceAdd,Nat.reduceLeDiff,zcJ] | ((with_reducible apply Im.i);intro _) | ((with_reducible apply Im.a);omega));exact Im.r):p:=h k
theorem zqH (g:G) (hf:manyB g) (hc:∀b∈g.blocks,∀s∈b.stmts,s.cases.length≤100000000):zk Tryz.prog zk2 [.agg g.cells] (·=.bool (!g.blocks.isEmpty&&g.blocks.all fun b=>zdr b.stmts g.blocks.length)):=by
 refine fn_x zsE rfl ?_;unfold zmS;have hB:=hBig;obtain⟨hb,hs⟩:=hf;obtain⟨ad,l⟩:=g;simp only at hb hs hc;simp only[G.cells]
 by_cases h0:l.length=0
 ·
  obtain rfl:l=[]:=Wa h0
  (repeat first|simp(disch:=try exact dis1) only[evD,Nat.reduceBEq,Nat.reduceAdd,Nat.reduceLeDiff,fldP,dT,List.length_nil,zcJ]|with_reducible first|intro _|refine aJ ?_)
  exact⟨_,.bool _ _,rfl⟩
 have he:l.isEmpty=false:=by cases l with|nil=>simp at h0|cons a l=>rfl
 rw[he];generalize hR:(l.all fun b=>zdr b.stmts l.length)=R
 (refine Qi ?_;intros)
 refine zo (fun i:Nat=>([(1,encP 2 [.int .u32 ad,encL 2 Bl.cells l]),(11,encL 2 Bl.cells l),(12,.int .i64 l.length),(13,.int .i64 i)],[])) 0 (fun i=>i≤l.length∧((l.drop i).all fun b=>zdr b.stmts l.length)=R) (fun i=>l.length - i) 0 ⟨Wc _,hR⟩ (Ent.keep rfl fin5) ?_;rintro i ⟨hi,hgo⟩ wf;unfold zi6
 by_cases hl:i < l.length
 ·
  have hg:(l.map Bl.cells).getD i []=[.int .u32 l[i].addr,encL 8 St.cells l[i].stmts]:=zn hl;have hss:=znj l[i] (hc _ (We hl));rw[Wi hl,List.all_cons] at hgo;simp only[Bl.cells] at hss;generalize l[i].stmts=m at hg hgo hss;generalize l[i].addr=ad' at hg hss
  by_cases hm0:m.length=0
  ·
   obtain rfl:m=[]:=Wa hm0
   replace hgo:R=false:=by rw[←hgo];rfl
   subst hgo
   (repeat first|simp(disch:=try exact dis1) only[evD,Nat.reduceBEq,Nat.reduceAdd,Nat.reduceLeDiff,fldP,dT,hg,List.length_nil,zcJ]|with_reducible first|intro _|refine aJ ?_)
   exact⟨_,.bool _ _,rfl⟩
  have hlast:m.length - 1 < m.length:=by omega
  have hidx:(((m.length:Nat):Int) - 1).toNat=m.length - 1:=by omega
  have hme:m.isEmpty=false:=by cases m with|nil=>simp at hm0|cons a l=>rfl
  unfold zdr at hgo;rw[hme,zm1 m hlast] at hgo
  (repeat first|simp(disch:=try exact dis1) only[evD,Nat.reduceBEq,Nat.reduceAdd,Nat.reduceLeDiff,fldP,dT,dF,hg,hidx,zn hlast,St.len,St.eight]|with_reducible first|intro _|refine aJ ?_)
  refine zc (zg (ziK m[m.length - 1]) rfl) ?_;generalize zlu m[m.length - 1]=q at hgo
  cases q with
  |
   false =>
   replace hgo:R=false:=by rw[←hgo];rfl
   subst hgo
   (refine Qx ?_;intros)
   exact⟨_,.bool _ _,rfl⟩
  |
   true =>
   (repeat first|simp(disch:=try exact dis1) only[evD,Nat.reduceBEq,Nat.reduceAdd,Nat.reduceLeDiff,fldP,zyz,hidx]|with_reducible first|intro _|refine aJ ?_)
   refine zc (zM (D:=noR) (zii (m.take (m.length - 1)) _ _ (zp4 _)) (.cons (zzH (by omega) (by omega) rfl (fun _=>rfl)) (.cons (zu7 (zp4 (m.take (m.length - 1)))) .nil)) (.inl rfl)) ?_;generalize (m.take (m.length - 1)).any zlu=q at hgo
   cases q with
   |
    true =>
    replace hgo:R=false:=by rw[←hgo];rfl
    subst hgo
    (refine Qx ?_;intros)
    exact⟨_,.bool _ _,rfl⟩
   |
    false =>
    (refine Ql ?_;intros)
    refine zc (zg hss rfl) ?_
    (refine Ql ?_;intros)
    refine zc (zM (D:=noR) (zh7 (zx m) _ _ (zmQ ad l _)) (.cons (zan rfl) (.cons (zuD (zmQ ad l (zx m))) .nil)) (.inl rfl)) ?_;rw[List.all_eq_not_any_not] at hgo;generalize ((zx m).any fun t => !inN l.length t)=q at hgo
    cases q with
    |
     true =>
     replace hgo:R=false:=by rw[←hgo];rfl
     subst hgo
     (refine Qx ?_;intros)
     exact⟨_,.bool _ _,rfl⟩
    |
     false =>
     replace hgo:((l.drop (i+1)).all fun b=>zdr b.stmts l.length)=R:=by rw[←hgo];rfl
     (refine Qa ?_;intros)
     exact⟨i+1,⟨by omega,hgo⟩,by omega,(Ent.tab [] [] rfl Qal Qal)⟩
 ·
  rw[Wf (by omega)] at hgo
  replace hgo:R=true:=by rw[←hgo];rfl
  subst hgo
  (refine Qi ?_;intros)
  unfold zjn
  (refine Qx ?_;intros)
  exact⟨_,.bool _ _,rfl⟩
theorem QW {p q:Prop}(k:q)(h:Im q p:=by(repeat first|simp(disch:=try exact dis1) only[evD,Nat.reduceBEq,Nat.reduceAdd,Nat.reduceLeDiff,zbI] | ((with_reducible apply Im.i);intro _) | ((with_reducible apply Im.a);omega));exact Im.r):p:=h k
theorem zhx (g:G) (hf:manyB g) (hc:∀b∈g.blocks,∀s∈b.stmts,s.cases.length≤100000000):zk Tryz.prog zdR [.agg g.cells] (·=.int .i64 (zaV g)):=by
 refine fn_x zna rfl ?_;unfold ziR;have hB:=hBig;have hsh:=zqH g hf hc;obtain⟨hb,hs⟩:=hf;obtain⟨ad,l⟩:=g;simp only at hb hs hsh;simp only[G.cells,zaV,zmV] at hsh ⊢
 (refine Ql ?_;intros)
 refine zo (fun s:Nat × Nat=>([(1,encP 2 [.int .u32 ad,encL 2 Bl.cells l]),(3,.int .i64 s.2),(12,encL 2 Bl.cells l),(13,.int .i64 l.length),(14,.int .i64 s.1)],[])) 0 (fun s=>s.1≤l.length∧s.2=cntB (l.take s.1)∧s.2≤1000000 * s.1) (fun s=>l.length - s.1) (0,0) ⟨Wc _,rfl,Nat.le_refl _⟩ (Ent.keep rfl fin5) ?_;rintro⟨i,n⟩ ⟨hi,hn0,hn⟩ wf;simp only at hi hn0 hn;unfold zgz
 by_cases hl:i < l.length
 ·
  have hg:(l.map Bl.cells).getD i []=[.int .u32 l[i].addr,encL 8 St.cells l[i].stmts]:=zn hl;have hsl:=hs l[i] (We hl)
  (repeat first|simp(disch:=try exact dis1) only[evD,Nat.reduceBEq,Nat.reduceAdd,Nat.reduceLeDiff,fldP,dT,hg]|with_reducible first|intro _|refine aJ ?_)
  exact⟨(i+1,n+l[i].stmts.length),⟨by simp only;omega,by simp only;rw[zsd hl];omega,by simp only;omega⟩,by simp only;omega,(Ent.tab [] [] rfl Qal Qal)⟩
 obtain rfl:i=l.length:=by omega
 rw[List.take_length] at hn0
 (refine Qi ?_;intros)
 unfold zgi
 by_cases h256:256 < l.length
 ·
  rw[if_pos (.inl h256)]
  (repeat first|simp(disch:=try exact dis1) only[evD,Nat.reduceBEq,Nat.reduceAdd,Nat.reduceLeDiff,fldP,dT,zbI]|with_reducible first|intro _|refine aJ ?_)
  exact⟨_,.int _ _ _,rfl⟩
 by_cases h1024:1024 < cntB l
 ·
  rw[if_pos (.inr h1024)]
  (repeat first|simp(disch:=try exact dis1) only[evD,Nat.reduceBEq,Nat.reduceAdd,Nat.reduceLeDiff,fldP,dT,dF,zbI]|with_reducible first|intro _|refine aJ ?_)
  exact⟨_,.int _ _ _,rfl⟩
 rw[if_neg (by omega)]
 (repeat first|simp(disch:=try exact dis1) only[evD,Nat.reduceBEq,Nat.reduceAdd,Nat.reduceLeDiff,fldP,dF,zh8,tab,List.getD_cons_zero,List.getD_cons_succ]|with_reducible first|intro _|refine aJ ?_)
 refine zc (zg hsh rfl) ?_;generalize (!l.isEmpty&&l.all fun b=>zdr b.stmts l.length)=q
 cases q with
 |
  false =>
  (refine QW ?_;intros)
  exact⟨_,.int _ _ _,rfl⟩
 | true =>
 rw[if_pos rfl]
 (refine Ql ?_;intros)
 refine zo (fun i:Nat=>([(36,encL 2 Bl.cells l),(37,.int .i64 l.length),(38,.int .i64 i)],[])) 0 (fun i=>i≤l.length∧zi4 (l.drop i)=zi4 l) (fun i=>l.length - i) 0 ⟨Wc _,rfl⟩ (Ent.keep rfl fin5) ?_;rintro i ⟨hi,hgo⟩ wf;unfold zgx
 by_cases hl:i < l.length
 ·
  have hg:(l.map Bl.cells).getD i []=[.int .u32 l[i].addr,encL 8 St.cells l[i].stmts]:=zn hl;have hsl:=hs l[i] (We hl);rw[zoN hl] at hgo
  (repeat first|simp(disch:=try exact dis1) only[evD,Nat.reduceBEq,Nat.reduceAdd,Nat.reduceLeDiff,fldP,dT,hg]|with_reducible first|intro _|refine aJ ?_)
  generalize l[i].stmts=m at hg hgo hsl;generalize l[i].addr=ad' at hg;refine zo (fun j:Nat=>([(36,encL 2 Bl.cells l),(37,.int .i64 l.length),(38,.int .i64 i),(43,encL 8 St.cells m),(44,.int .i64 m.length),(45,.int .i64 j)],[])) 0 (fun j=>j≤m.length∧zgX (m.drop j)=zgX m) (fun j=>m.length - j) 0 ⟨Wc _,rfl⟩ (Ent.tab [] [] rfl Qal Qal) ?_;rintro j ⟨hj,hgo2⟩ wf2;unfold zf3
  by_cases hm:j < m.length
  ·
   rw[znA hm] at hgo2
   (repeat first|simp(disch:=try exact dis1) only[evD,Nat.reduceBEq,Nat.reduceAdd,Nat.reduceLeDiff,fldP,dT,zn hm,St.len,St.eight,St.flat]|with_reducible first|intro _|refine aJ ?_)
   refine zc (zg (zoO m[j]) rfl) ?_
   by_cases hx:m[j].check=0
   ·
    rw[if_neg (by omega)] at hgo2
    (refine Qk ?_;intros)
    exact⟨j+1,⟨by omega,hgo2⟩,by omega,(Ent.tab [] [] rfl Qal Qal)⟩
   ·
    rw[if_pos hx] at hgo2;rw[←hgo2,if_pos hx] at hgo;rw[←hgo]
    (repeat first|simp(disch:=try exact dis1) only[evD,Nat.reduceBEq,Nat.reduceAdd,Nat.reduceLeDiff,dT,zbI]|with_reducible first|intro _|refine aJ ?_)
    exact⟨_,.int _ _ _,rfl⟩
  ·
   rw[Wf (by omega),zgX] at hgo2;rw[←hgo2,if_neg (by omega)] at hgo
   (refine Qi ?_;intros)
   unfold zge
   (refine Qa ?_;intros)
   exact⟨i+1,⟨by omega,hgo⟩,by omega,Ent.keep rfl fin5⟩
 rw[Wf (by omega),zi4] at hgo;rw[←hgo]
 (refine Qi ?_;intros)
 unfold zgv
 (refine QW ?_;intros)
 exact⟨_,.int _ _ _,rfl⟩
mutual
def zkq:Nd→Bool→Bool
 | .mk f _ l,b=>if (f.kind=7∨f.kind=8)∧b=false then true else zdF l (b||zhk f.kind)
def zdF:List Nd→Bool→Bool
 | [],_=>false
 | x::l,b=>zkq x b||zdF l b
end
theorem zoi:∀(l:List Nd) (b:Bool),zdF l b=l.any (zkq · b)
 | [],b=>by rw[zdF];rfl
 | x::l,b=>by rw[zdF,zoi l b];rfl
theorem flNB {b:Bool} {e:Nd}:([AV.agg (encN e),.bool b]).all AV.flat=true:=flN (r:=[.bool b]) rfl
structure PredN (fv:AV) (l:List Nd) (p:Nd→Bool):Prop where
 ex:∃f caps,fv=.fn (.func f) caps∧zcZ Tryz.prog f=true∧zr caps=true∧∀s∈l,zk Tryz.prog f ([.agg (encN s)]++caps) (·=.bool (p s))
theorem ztv {fv:AV} {l:List Nd} {p:Nd→Bool} (hp:PredN fv l p) {s:Nd} (hs:s∈l) {H:AH} {nx:Nat} {k:AV→AH→Nat→Prop} (hk:k (.bool (p s)) H nx):zkh Tryz.prog fv [.agg (encN s)] H nx k:=by obtain⟨f,caps,rfl,hg,hf,hx⟩:=hp.ex;rw[zhr];refine⟨hg,zc (zg (hx s hs) ?_) hk⟩;simp only[List.cons_append,List.nil_append,List.all_cons,Wj];exact⟨by have:=flN (r:=[]) rfl (e:=s);simpa using this,zcE hf⟩
theorem zuO {fv:AV} {l:List Nd} {p:Nd→Bool} (hp:PredN fv l p) {H H2:AH} {σ:Nat→Nat→Option (Nat × Nat × Nat)} {D:Nat→Nat→Prop} {t:Bool}:Vw H H2 σ D t fv fv:=by
 obtain⟨f,caps,rfl,hg,hf,hx⟩:=hp.ex
 refine .fn _ _ _ _ rfl fun i a b h1 h2=>?_
 rw[h1] at h2;cases h2;exact zcr (zbB hf h1)
theorem QX {p q:Prop}(k:q)(h:Im q p:=by(repeat first|simp(disch:=try exact dis1) only[evD,Nat.reduceBEq,Nat.reduceAdd,Nat.reduceLeDiff,zam] | ((with_reducible apply Im.i);intro _) | ((with_reducible apply Im.a);omega));exact Im.r):p:=h k
theorem zj7 (l:List Nd) (fv:AV) (p:Nd→Bool) (hp:PredN fv l p):zk Tryz.prog zar [encL 5 encN l,fv] (·=.int .i64 (idxI (l.findIdx? p))):=by
 refine fn_x zc6 rfl ?_;unfold zbn;have hB:=hBig
 (refine Qa ?_;intros)
 refine zo (fun i:Nat=>([(0,encL 5 encN l),(1,fv),(7,.int .i64 l.length),(8,.int .i64 i)],[])) 0 (fun i=>i≤l.length∧∀j (h:j < l.length),j < i→p l[j]=false) (fun i=>l.length - i) 0 ⟨Wc _,fun j _ h=>by omega⟩ (Ent.keep rfl fin5) ?_;intro i ⟨hi,hno⟩ wf;unfold zaZ
 (refine Qa ?_;intros)
 (refine zy (fun h=>?_) (fun h=>?_))<;>(try simp only[dcd] at h)
 ·
  have hi':i < l.length:=by omega
  (repeat first|simp(disch:=try exact dis1) only[evD,Nat.reduceBEq,Nat.reduceAdd,Nat.reduceLeDiff,zn hi',zbQ,zbg]|with_reducible first|intro _|refine aJ ?_)
  refine ztv hp (We hi') ?_
  (refine Qa ?_;intros)
  (refine zy (fun h2=>?_) (fun h2=>?_))<;>(try simp only[dcd] at h2)
  ·
   (refine QX ?_;intros)
   have e:l.findIdx? p=some i:=by rw[Wk];exact⟨hi',h2,fun j hj=>by rw[hno j (by omega) hj];simp⟩
   rw[e];exact⟨_,.int _ _ _,rfl⟩
  ·
   (refine Qa ?_;intros)
   refine⟨i+1,⟨by omega,fun j hj hji=>?_⟩,by omega,Ent.keep rfl fin5⟩
   by_cases hje:j=i
   · subst hje;simpa using h2
   · exact hno j hj (by omega)
 ·
  unfold za5
  (refine QX ?_;intros)
  have e:l.findIdx? p=none:=by rw[Wl];intro x hx;obtain⟨j,hj,rfl⟩:=List.mem_iff_getElem.1 hx;exact hno j hj (by omega)
  rw[e];exact⟨_,.int _ _ _,rfl⟩
theorem zA9 {l:List Nd} {p:Nd→Bool}:decide (idxI (l.findIdx? p) ≥ 0)=l.any p:=by
 cases h:l.findIdx? p with
 |
  none =>
  have:=Wl.1 h;rw[decide_eq_false (by simp[idxI])];symm;rw[List.any_eq_false];intro x hx;rw[this x hx];simp
 |
  some i =>
  obtain⟨h1,h2,_⟩:=Wk.1 h;rw[decide_eq_true (by simp[idxI])];exact(zrj h1 h2).symm
theorem zcf (l:List Nd) (fv:AV) (p:Nd→Bool) (hp:PredN fv l p):zk Tryz.prog zD [encL 5 encN l,fv] (·=.bool (l.any p)):=by
 refine fn_x zcD rfl ?_;unfold za3
 (refine Qa ?_;intros)
 refine zc (zM (D:=noR) (zj7 l fv p hp) (.cons (zan rfl) (.cons (zuO hp) .nil)) (.inl rfl)) ?_
 (repeat first|simp(disch:=try exact dis1) only[evD,Nat.reduceBEq,Nat.reduceAdd,Nat.reduceLeDiff,za0]|with_reducible first|intro _|refine aJ ?_)
 refine⟨_,.bool _ _,?_⟩;rw[←zA9]
theorem zjV {H:AH} {f r g n:Nat} {c:List AV} (hg:H.get r 0=some (.row n [c] g)) (hc:c.all AV.flat0=true) (hn:c.length=n):Vw H [] nos allR false (.fn (.func f) [.ptr r 0 g 0 0]) (.fn (.func f) [encP n c]):=by
 refine .fn _ _ _ _ rfl fun i a b h1 h2=>?_
 match i with
 | 0=>cases h1;cases h2;exact zAw trivial hg hc hn
 | i+1=>cases h1
theorem QY {p q:Prop}(k:q)(h:Im q p:=by(repeat first|simp(disch:=try exact dis1) only[evD,Nat.reduceBEq,Nat.reduceAdd,Nat.reduceLeDiff,zbQ,zaH,zbg,encP] | ((with_reducible apply Im.i);intro _) | ((with_reducible apply Im.a);omega));exact Im.r):p:=h k
theorem Qm {p q:Prop}(k:q)(h:Im q p:=by(repeat first|simp(disch:=try exact dis1) only[evD,Nat.reduceBEq,Nat.reduceAdd,Nat.reduceLeDiff,fldP,dT,dF,zB] | ((with_reducible apply Im.i);intro _) | ((with_reducible apply Im.a);omega));exact Im.r):p:=h k
theorem zkg:∀(k:Nat) (e:Nd) (b:Bool),zay e≤k→zk Tryz.prog zce [.agg (encN e),.bool b] (·=.bool (!zkq e b)):=by
 intro k
 induction k with
 | zero=>intro e b h;obtain⟨_,_,l⟩:=e;rw[zay] at h;omega
 | succ k ih =>
 intro e b hk;obtain⟨⟨kd,bl,lb⟩,c,l⟩:=e;refine fn_x zjZ rfl ?_;unfold zfo;have hB:=hBig;rw[zay] at hk;have hE:=zey ⟨kd,bl,lb⟩ c l;simp only at hE;rw[hE,zkq];simp only
 have hp:∀q:Bool,PredN (.fn (.func zbK) [encP 1 [.bool q]]) l (zkq · q):=by
  intro q;refine⟨_,_,rfl,by kernel_rfl,rfl,fun s hs=>?_⟩;have hm:=zs2 hs;refine fn_x zi1 rfl ?_;unfold zem
  (refine QY ?_;intros)
  refine zc (zg (ih s q (by omega)) flNB) ?_
  (repeat first|simp(disch:=try exact dis1) only[evD,Nat.reduceBEq,Nat.reduceAdd,Nat.reduceLeDiff,zei]|with_reducible first|intro _|refine aJ ?_)
  exact⟨_,.bool _ _,rfl⟩
 have stop:(kd=7∨kd=8)→b=false→(if (kd=7∨kd=8)∧b=false then true else zdF l (b||zhk kd))=true:=fun h1 h2=>if_pos ⟨h1,h2⟩
 have go:¬((kd=7∨kd=8)∧b=false)→(if (kd=7∨kd=8)∧b=false then true else zdF l (b||zhk kd))=zdF l (b||zhk kd):=fun h=>if_neg h
 have e0:kd≠4→kd≠5→zhk kd=false:=fun h4 h5=>by unfold zhk;exact decide_eq_false (by omega)
 have fin:∀(q:Bool),zk Tryz.prog zD [encL 5 encN l,.fn (.func zbK) [encP 1 [.bool q]]] (·=.bool (zdF l q)):=by intro q;rw[zoi];exact zcf l _ _ (hp q)
 cases b with
 |
  true =>
  rw[go (by simp),Bool.true_or];have fin1:=fin true;generalize zdF l true=R at fin1
  by_cases h7:kd=7
  ·
   (refine Qm ?_;intros)
   refine zc (zM (D:=allR) fin1 (.cons (zan rfl) (.cons (zjV rfl rfl rfl) .nil)) (.inl rfl)) ?_
   (refine Qm ?_;intros)
   exact⟨_,.bool _ _,rfl⟩
  by_cases h8:kd=8
  ·
   (refine Qm ?_;intros)
   refine zc (zM (D:=allR) fin1 (.cons (zan rfl) (.cons (zjV rfl rfl rfl) .nil)) (.inl rfl)) ?_
   (refine Qm ?_;intros)
   exact⟨_,.bool _ _,rfl⟩
  (refine Qm ?_;intros)
  refine zc (zM (D:=allR) fin1 (.cons (zan rfl) (.cons (zjV rfl rfl rfl) .nil)) (.inl rfl)) ?_
  (refine Qm ?_;intros)
  exact⟨_,.bool _ _,rfl⟩
 |
  false =>
  by_cases h7:kd=7
  ·
   rw[stop (.inl h7) rfl]
   (refine Qm ?_;intros)
   exact⟨_,.bool _ _,rfl⟩
  by_cases h8:kd=8
  ·
   rw[stop (.inr h8) rfl]
   (refine Qm ?_;intros)
   exact⟨_,.bool _ _,rfl⟩
  rw[go (by omega),Bool.false_or];have finq:=fin (zhk kd);generalize zdF l (zhk kd)=R at finq;have hq:zhk kd=decide (kd=4∨kd=5):=rfl
  by_cases h4:kd=4
  ·
   rw[hq,decide_eq_true (.inl h4)] at finq
   (refine Qm ?_;intros)
   refine zc (zM (D:=allR) finq (.cons (zan rfl) (.cons (zjV rfl rfl rfl) .nil)) (.inl rfl)) ?_
   (refine Qm ?_;intros)
   exact⟨_,.bool _ _,rfl⟩
  by_cases h5:kd=5
  ·
   rw[hq,decide_eq_true (.inr h5)] at finq
   (refine Qm ?_;intros)
   refine zc (zM (D:=allR) finq (.cons (zan rfl) (.cons (zjV rfl rfl rfl) .nil)) (.inl rfl)) ?_
   (refine Qm ?_;intros)
   exact⟨_,.bool _ _,rfl⟩
  rw[e0 h4 h5] at finq
  (refine Qm ?_;intros)
  refine zc (zM (D:=allR) finq (.cons (zan rfl) (.cons (zjV rfl rfl rfl) .nil)) (.inl rfl)) ?_
  (refine Qm ?_;intros)
  exact⟨_,.bool _ _,rfl⟩
def hasI (l:List Int) (t:Int):Bool:=l.any fun x=>decide (x=t)
mutual
def zlO:Nd→List Int
 | .mk f _ l=>if f.kind=9 then [f.label] else zhH l
def zhH:List Nd→List Int
 | []=>[]
 | x::l=>zlO x++zhH l
end
theorem QH {p q:Prop}(k:q)(h:Im q p:=by(repeat first|simp(disch:=try exact dis1) only[evD,Nat.reduceBEq,Nat.reduceAdd,Nat.reduceLeDiff,dF,za] | ((with_reducible apply Im.i);intro _) | ((with_reducible apply Im.a);omega));exact Im.r):p:=h k
theorem zli (l:List Int) (t:Int):zk Tryz.prog zcq [za l,.int .i64 t] (fun a=>∃n:Int,a=.int .i64 n∧decide (n ≥ 0)=hasI l t):=by
 refine fn_x zib rfl ?_;unfold zdE hasI;have hB:=hBig;generalize hR:(l.any fun x=>decide (x=t))=R
 (refine Qo ?_;intros)
 refine zo (fun i:Nat=>([(0,za l),(1,.int .i64 t),(7,.int .i64 l.length),(8,.int .i64 i)],[])) 0 (fun i=>i≤l.length∧((l.drop i).any fun x=>decide (x=t))=R) (fun i=>l.length - i) 0 ⟨Wc _,hR⟩ (Ent.keep rfl fin5) ?_;rintro i ⟨hi,hgo⟩ wf;unfold zc1
 by_cases hl:i < l.length
 ·
  rw[Wi hl,List.any_cons] at hgo
  by_cases hx:l[i]=t
  ·
   rw[decide_eq_true hx,Bool.true_or] at hgo;subst hgo;have hx2:decide (t=l[i])=true:=decide_eq_true hx.symm
   (repeat first|simp(disch:=try exact dis1) only[evD,Nat.reduceBEq,Nat.reduceAdd,Nat.reduceLeDiff,dT,hx2,za,zn hl,zci]|with_reducible first|intro _|refine aJ ?_)
   exact⟨_,.int _ _ _,i,rfl,decide_eq_true (by omega)⟩
  ·
   rw[decide_eq_false hx,Bool.false_or] at hgo;have hx2:decide (t=l[i])=false:=decide_eq_false (fun h=>hx h.symm)
   (repeat first|simp(disch:=try exact dis1) only[evD,Nat.reduceBEq,Nat.reduceAdd,Nat.reduceLeDiff,dT,hx2,za,zn hl]|with_reducible first|intro _|refine aJ ?_)
   exact⟨i+1,⟨by omega,hgo⟩,by omega,Ent.keep rfl fin5⟩
 ·
  rw[Wf (by omega)] at hgo
  replace hgo:R=false:=by rw[←hgo];rfl
  subst hgo
  (refine QH ?_;intros)
  unfold zc0
  (repeat first|simp(disch:=try exact dis1) only[evD,Nat.reduceBEq,Nat.reduceAdd,Nat.reduceLeDiff,zci]|with_reducible first|intro _|refine aJ ?_)
  exact⟨_,.int _ _ _,-1,rfl,rfl⟩
theorem zi0 (l:List Int) (t:Int):zk Tryz.prog zbP [za l,.int .i64 t] (·=.bool (hasI l t)):=by
 refine fn_x zgH rfl ?_;unfold zc3;have hB:=hBig
 (refine Qa ?_;intros)
 refine zyw (D:=noR) (zli l t) (.cons (zan rfl) (.cons (zan rfl) .nil)) (fun a ⟨n,h,_⟩=>.inl (by rw[h];rfl)) ?_;rintro _ ⟨n,rfl,hn⟩
 (repeat first|simp(disch:=try exact dis1) only[evD,Nat.reduceBEq,Nat.reduceAdd,Nat.reduceLeDiff,hn,zc2]|with_reducible first|intro _|refine aJ ?_)
 exact⟨_,.bool _ _,rfl⟩
def wOk (l:List Bl) (b:Int):Bool:=if b < 0 then false else match l[b.toNat]? with
 | none=>false
 | some x=>decide (x.stmts.length=1)
mutual
def zqn (g:List Bl):Nd→Bool
 | .mk f _ l=>if f.kind=5∧wOk g f.block=false then false else zjI g l
def zjI (g:List Bl):List Nd→Bool
 | []=>true
 | x::l=>zqn g x&&zjI g l
end
def zK (kd bl lb:Int) (cn ln:Nat):Prop :=
 1≤kd∧kd≤12∧((kd=3∨kd=5∨kd=6)→cn=1)∧(kd=3∨kd=5∨kd=6∨cn=0) ∧
 (kd=1∨(kd=3∧ln=2)∨((kd=4∨kd=5)∧ln=1)∨(kd=6∧1≤ln∧ln≤64)∨((kd=2∨7≤kd)∧ln=0)) ∧
 (kd=2∨kd=5∨bl=0)∧(kd=9∨kd=10∨lb=0)∧0≤lb
instance (kd bl lb:Int) (cn ln:Nat):Decidable (zK kd bl lb cn ln):=by unfold zK;infer_instance
def zbH (kd bl lb:Int) (c:List Ex) (ln:Nat):Bool:=decide (zK kd bl lb c.length ln)&&c.all fun e=>decide (ziP e=0)
theorem noF {kd bl lb:Int} {c:List Ex} {n:Nat} (h:¬zK kd bl lb c.length n):false=zbH kd bl lb c n:=by unfold zbH;rw[dF h];rfl
theorem yesF {kd bl lb:Int} {n:Nat} (h:zK kd bl lb 0 n):zbH kd bl lb [] n=true:=by unfold zbH;rw[dT (show zK kd bl lb ([]:List Ex).length n from h)];rfl
theorem yesX {kd bl lb:Int} {e:Ex} {n:Nat} (h:zK kd bl lb 1 n):zbH kd bl lb [e] n=decide (ziP e=0):=by unfold zbH;rw[dT (show zK kd bl lb [e].length n from h)];simp
theorem hgX {e:Ex}:[encX e].getD (Int.toNat 0) []=encX e:=rfl
theorem Qe {p q:Prop}(k:q)(h:Im q p:=by(repeat first|simp(disch:=try exact dis1) only[evD,Nat.reduceBEq,Nat.reduceAdd,Nat.reduceLeDiff,dT,dF,fldP,zb] | ((with_reducible apply Im.i);intro _) | ((with_reducible apply Im.a);omega));exact Im.r):p:=h k
theorem zBm {kd bl lb:Int} {c:List Ex} {l:List Nd} (h:kd=7∨kd=8∨kd=11∨kd=12):zk Tryz.prog zI [.agg [.int .i64 kd,.int .i64 bl,.int .i64 lb,encL 5 encX c,encL 5 encN l]] (·=.bool (zbH kd bl lb c l.length)):=by
 refine fn_x zS rfl ?_;unfold zO;have hB:=hBig
 (refine Qe ?_;intros)
 by_cases q0:c.length=0<;>(refine Qe ?_;intros)
 case neg=>exact⟨_,.bool _ _,congrArg AV.bool (noF (by unfold zK;omega))⟩
 by_cases q1:l.length=0<;>(refine Qe ?_;intros)
 case neg=>exact⟨_,.bool _ _,congrArg AV.bool (noF (by unfold zK;omega))⟩
 by_cases q2:bl=0<;>(refine Qe ?_;intros)
 case neg=>exact⟨_,.bool _ _,congrArg AV.bool (noF (by unfold zK;omega))⟩
 by_cases q3:lb=0<;>(refine Qe ?_;intros)
 case neg=>exact⟨_,.bool _ _,congrArg AV.bool (noF (by unfold zK;omega))⟩
 obtain rfl:c=[]:=Wa q0;exact⟨_,.bool _ _,congrArg AV.bool (yesF (by unfold zK;omega)).symm⟩
theorem zA0 {kd bl lb:Int} {c:List Ex} {l:List Nd} (h:kd=2):zk Tryz.prog zI [.agg [.int .i64 kd,.int .i64 bl,.int .i64 lb,encL 5 encX c,encL 5 encN l]] (·=.bool (zbH kd bl lb c l.length)):=by
 refine fn_x zS rfl ?_;unfold zO;have hB:=hBig
 (refine Qe ?_;intros)
 by_cases q0:c.length=0<;>(refine Qe ?_;intros)
 case neg=>exact⟨_,.bool _ _,congrArg AV.bool (noF (by unfold zK;omega))⟩
 by_cases q1:l.length=0<;>(refine Qe ?_;intros)
 case neg=>exact⟨_,.bool _ _,congrArg AV.bool (noF (by unfold zK;omega))⟩
 by_cases q2:lb=0<;>(refine Qe ?_;intros)
 case neg=>exact⟨_,.bool _ _,congrArg AV.bool (noF (by unfold zK;omega))⟩
 obtain rfl:c=[]:=Wa q0;exact⟨_,.bool _ _,congrArg AV.bool (yesF (by unfold zK;omega)).symm⟩
theorem zzD {kd bl lb:Int} {c:List Ex} {l:List Nd} (h:kd=9):zk Tryz.prog zI [.agg [.int .i64 kd,.int .i64 bl,.int .i64 lb,encL 5 encX c,encL 5 encN l]] (·=.bool (zbH kd bl lb c l.length)):=by
 refine fn_x zS rfl ?_;unfold zO;have hB:=hBig
 (refine Qe ?_;intros)
 by_cases q0:c.length=0<;>(refine Qe ?_;intros)
 case neg=>exact⟨_,.bool _ _,congrArg AV.bool (noF (by unfold zK;omega))⟩
 by_cases q1:l.length=0<;>(refine Qe ?_;intros)
 case neg=>exact⟨_,.bool _ _,congrArg AV.bool (noF (by unfold zK;omega))⟩
 by_cases q2:bl=0<;>(refine Qe ?_;intros)
 case neg=>exact⟨_,.bool _ _,congrArg AV.bool (noF (by unfold zK;omega))⟩
 by_cases q3:0≤lb<;>(refine Qe ?_;intros)
 case neg=>exact⟨_,.bool _ _,congrArg AV.bool (noF (by unfold zK;omega))⟩
 obtain rfl:c=[]:=Wa q0;exact⟨_,.bool _ _,congrArg AV.bool (yesF (by unfold zK;omega)).symm⟩
theorem zy8 {kd bl lb:Int} {c:List Ex} {l:List Nd} (h:kd=10):zk Tryz.prog zI [.agg [.int .i64 kd,.int .i64 bl,.int .i64 lb,encL 5 encX c,encL 5 encN l]] (·=.bool (zbH kd bl lb c l.length)):=by
 refine fn_x zS rfl ?_;unfold zO;have hB:=hBig
 (refine Qe ?_;intros)
 by_cases q0:c.length=0<;>(refine Qe ?_;intros)
 case neg=>exact⟨_,.bool _ _,congrArg AV.bool (noF (by unfold zK;omega))⟩
 by_cases q1:l.length=0<;>(refine Qe ?_;intros)
 case neg=>exact⟨_,.bool _ _,congrArg AV.bool (noF (by unfold zK;omega))⟩
 by_cases q2:bl=0<;>(refine Qe ?_;intros)
 case neg=>exact⟨_,.bool _ _,congrArg AV.bool (noF (by unfold zK;omega))⟩
 by_cases q3:0≤lb<;>(refine Qe ?_;intros)
 case neg=>exact⟨_,.bool _ _,congrArg AV.bool (noF (by unfold zK;omega))⟩
 obtain rfl:c=[]:=Wa q0;exact⟨_,.bool _ _,congrArg AV.bool (yesF (by unfold zK;omega)).symm⟩
theorem zA3 {kd bl lb:Int} {c:List Ex} {l:List Nd} (h:kd=1):zk Tryz.prog zI [.agg [.int .i64 kd,.int .i64 bl,.int .i64 lb,encL 5 encX c,encL 5 encN l]] (·=.bool (zbH kd bl lb c l.length)):=by
 refine fn_x zS rfl ?_;unfold zO;have hB:=hBig
 (refine Qe ?_;intros)
 by_cases q0:c.length=0<;>(refine Qe ?_;intros)
 case neg=>exact⟨_,.bool _ _,congrArg AV.bool (noF (by unfold zK;omega))⟩
 by_cases q1:bl=0<;>(refine Qe ?_;intros)
 case neg=>exact⟨_,.bool _ _,congrArg AV.bool (noF (by unfold zK;omega))⟩
 by_cases q2:lb=0<;>(refine Qe ?_;intros)
 case neg=>exact⟨_,.bool _ _,congrArg AV.bool (noF (by unfold zK;omega))⟩
 obtain rfl:c=[]:=Wa q0;exact⟨_,.bool _ _,congrArg AV.bool (yesF (by unfold zK;omega)).symm⟩
theorem zzU {kd bl lb:Int} {c:List Ex} {l:List Nd} (h:kd=4):zk Tryz.prog zI [.agg [.int .i64 kd,.int .i64 bl,.int .i64 lb,encL 5 encX c,encL 5 encN l]] (·=.bool (zbH kd bl lb c l.length)):=by
 refine fn_x zS rfl ?_;unfold zO;have hB:=hBig
 (refine Qe ?_;intros)
 by_cases q0:c.length=0<;>(refine Qe ?_;intros)
 case neg=>exact⟨_,.bool _ _,congrArg AV.bool (noF (by unfold zK;omega))⟩
 by_cases q1:l.length=1<;>(refine Qe ?_;intros)
 case neg=>exact⟨_,.bool _ _,congrArg AV.bool (noF (by unfold zK;omega))⟩
 by_cases q2:bl=0<;>(refine Qe ?_;intros)
 case neg=>exact⟨_,.bool _ _,congrArg AV.bool (noF (by unfold zK;omega))⟩
 by_cases q3:lb=0<;>(refine Qe ?_;intros)
 case neg=>exact⟨_,.bool _ _,congrArg AV.bool (noF (by unfold zK;omega))⟩
 obtain rfl:c=[]:=Wa q0;exact⟨_,.bool _ _,congrArg AV.bool (yesF (by unfold zK;omega)).symm⟩
theorem QI {p q:Prop}(k:q)(h:Im q p:=by(repeat first|simp(disch:=try exact dis1) only[evD,Nat.reduceBEq,Nat.reduceAdd,Nat.reduceLeDiff,hgX,zbT,zbo,zb] | ((with_reducible apply Im.i);intro _) | ((with_reducible apply Im.a);omega));exact Im.r):p:=h k
theorem zz6 {kd bl lb:Int} {c:List Ex} {l:List Nd} (h:kd=3):zk Tryz.prog zI [.agg [.int .i64 kd,.int .i64 bl,.int .i64 lb,encL 5 encX c,encL 5 encN l]] (·=.bool (zbH kd bl lb c l.length)):=by
 refine fn_x zS rfl ?_;unfold zO;have hB:=hBig
 (refine Qe ?_;intros)
 by_cases q0:c.length=1
 case neg =>
  (refine Qe ?_;intros)
  exact⟨_,.bool _ _,congrArg AV.bool (noF (by unfold zK;omega))⟩
 obtain⟨e,rfl⟩:∃e,c=[e]:=Wg.1 q0
 (refine Qe ?_;intros)
 by_cases q1:l.length=2<;>(refine Qe ?_;intros)
 case neg=>exact⟨_,.bool _ _,congrArg AV.bool (noF (by unfold zK;omega))⟩
 by_cases q2:bl=0<;>(refine Qe ?_;intros)
 case neg=>exact⟨_,.bool _ _,congrArg AV.bool (noF (by unfold zK;omega))⟩
 by_cases q3:lb=0<;>(refine Qe ?_;intros)
 case neg=>exact⟨_,.bool _ _,congrArg AV.bool (noF (by unfold zK;omega))⟩
 (refine QI ?_;intros)
 refine zc (zg (zdD e) (flX rfl)) ?_
 (refine Qe ?_;intros)
 exact⟨_,.bool _ _,congrArg AV.bool (yesX (by unfold zK;omega)).symm⟩
theorem zzB {kd bl lb:Int} {c:List Ex} {l:List Nd} (h:kd=5):zk Tryz.prog zI [.agg [.int .i64 kd,.int .i64 bl,.int .i64 lb,encL 5 encX c,encL 5 encN l]] (·=.bool (zbH kd bl lb c l.length)):=by
 refine fn_x zS rfl ?_;unfold zO;have hB:=hBig
 (refine Qe ?_;intros)
 by_cases q0:c.length=1
 case neg =>
  (refine Qe ?_;intros)
  exact⟨_,.bool _ _,congrArg AV.bool (noF (by unfold zK;omega))⟩
 obtain⟨e,rfl⟩:∃e,c=[e]:=Wg.1 q0
 (refine Qe ?_;intros)
 by_cases q1:l.length=1<;>(refine Qe ?_;intros)
 case neg=>exact⟨_,.bool _ _,congrArg AV.bool (noF (by unfold zK;omega))⟩
 by_cases q2:lb=0<;>(refine Qe ?_;intros)
 case neg=>exact⟨_,.bool _ _,congrArg AV.bool (noF (by unfold zK;omega))⟩
 (refine QI ?_;intros)
 refine zc (zg (zdD e) (flX rfl)) ?_
 (refine Qe ?_;intros)
 exact⟨_,.bool _ _,congrArg AV.bool (yesX (by unfold zK;omega)).symm⟩
theorem zzZ {kd bl lb:Int} {c:List Ex} {l:List Nd} (h:kd=6):zk Tryz.prog zI [.agg [.int .i64 kd,.int .i64 bl,.int .i64 lb,encL 5 encX c,encL 5 encN l]] (·=.bool (zbH kd bl lb c l.length)):=by
 refine fn_x zS rfl ?_;unfold zO;have hB:=hBig
 (refine Qe ?_;intros)
 by_cases q0:c.length=1
 case neg =>
  (refine Qe ?_;intros)
  exact⟨_,.bool _ _,congrArg AV.bool (noF (by unfold zK;omega))⟩
 obtain⟨e,rfl⟩:∃e,c=[e]:=Wg.1 q0
 (refine Qe ?_;intros)
 by_cases q1:1≤l.length<;>(refine Qe ?_;intros)
 case neg=>exact⟨_,.bool _ _,congrArg AV.bool (noF (by unfold zK;omega))⟩
 by_cases q2:l.length≤64<;>(refine Qe ?_;intros)
 case neg=>exact⟨_,.bool _ _,congrArg AV.bool (noF (by unfold zK;omega))⟩
 by_cases q3:bl=0<;>(refine Qe ?_;intros)
 case neg=>exact⟨_,.bool _ _,congrArg AV.bool (noF (by unfold zK;omega))⟩
 by_cases q4:lb=0<;>(refine Qe ?_;intros)
 case neg=>exact⟨_,.bool _ _,congrArg AV.bool (noF (by unfold zK;omega))⟩
 (refine QI ?_;intros)
 refine zc (zg (zdD e) (flX rfl)) ?_
 (refine Qe ?_;intros)
 exact⟨_,.bool _ _,congrArg AV.bool (yesX (by unfold zK;omega)).symm⟩
theorem zx1 {kd bl lb:Int} {c:List Ex} {l:List Nd} (h:kd < 1):zk Tryz.prog zI [.agg [.int .i64 kd,.int .i64 bl,.int .i64 lb,encL 5 encX c,encL 5 encN l]] (·=.bool (zbH kd bl lb c l.length)):=by
 refine fn_x zS rfl ?_;unfold zO;have hB:=hBig
 (refine Qe ?_;intros)
 exact⟨_,.bool _ _,congrArg AV.bool (noF (by unfold zK;omega))⟩
theorem zya {kd bl lb:Int} {c:List Ex} {l:List Nd} (h:12 < kd):zk Tryz.prog zI [.agg [.int .i64 kd,.int .i64 bl,.int .i64 lb,encL 5 encX c,encL 5 encN l]] (·=.bool (zbH kd bl lb c l.length)):=by
 refine fn_x zS rfl ?_;unfold zO;have hB:=hBig
 (refine Qe ?_;intros)
 exact⟨_,.bool _ _,congrArg AV.bool (noF (by unfold zK;omega))⟩
theorem zk3 (kd bl lb:Int) (c:List Ex) (l:List Nd):zk Tryz.prog zI [.agg [.int .i64 kd,.int .i64 bl,.int .i64 lb,encL 5 encX c,encL 5 encN l]] (·=.bool (zbH kd bl lb c l.length)):=by
 rcases Int.lt_or_le kd 1 with h|h
 · exact zx1 h
 rcases Int.lt_or_le 12 kd with h2|h2
 · exact zya h2
 by_cases ha:kd=7∨kd=8∨kd=11∨kd=12
 · exact zBm ha
 by_cases hb:kd=2
 · exact zA0 hb
 by_cases hc:kd=9
 · exact zzD hc
 by_cases hc2:kd=10
 · exact zy8 hc2
 by_cases hd:kd=1
 · exact zA3 hd
 by_cases he:kd=4
 · exact zzU he
 by_cases hf:kd=3
 · exact zz6 hf
 by_cases hg:kd=5
 · exact zzB hg
 exact zzZ (by omega)
end Go.Ab
namespace Go.Ab
open Go.RowKit Go.Proofs
def zgI:ACode:=.seq (.region [ Yaa,Yah] [0,2]) (.seq (.region [ (oA 3 2 1),(oN 4 (.call zgf [(.t 3)])),(oN 5 (.call zcQ [(.t 4),(.c (.int .i64 0))])),(oM 2 5)] [1,3,4,5]) (.ret))
def zdO:List ARet:=[.tmp 2]
theorem zlV:zT Tryz.prog zex (qRo [1])=some (zgI.strip,zdO,6):=by kernel_rfl
def zdi:ACode:=.seq (.region [ (oB 14 .lss 13 12)] []) (.seq (.cond (.t 14) (.skip) (.exit 0)) (.seq (.block 1 (.seq (.region [ (oI 15 1 11 13),(oL 16 15),(oM 5 16)] [14,15,16]) (.region [ (oM 17 3),(oM 18 5),(oI 19 1 17 18),⟨none,.store 1 (.t 19) (.c (.bool true)),none⟩] [5,17,18,19]))) (.region [ (oC 20 .add 13 1),(oM 13 20)] [20])))
def zdh:ACode:=.seq (.region [ (oM 21 3),(oM 2 21)] [3,11,12,13,21]) (.ret)
def zd6:ACode:=.seq (.region [ Yaa,Yah] [0,2]) (.seq (.region [ (oF 6 1 1 1),(oL 7 6),(oE 8 7),(oN 9 (.mksl 1 1 [.bool false] (.t 8) (.t 8))),(oM 3 9)] [6,7,8,9]) (.seq (.seq (.region [ (oA 10 2 1),(oN 11 (.call zex [(.t 10)])),(oE 12 11),(oK 13 0)] [1,10]) (.block 0 (.loop zdi))) (zdh)))
def zef:List ARet:=[.tmp 2]
theorem ziW:zT Tryz.prog zcI (qRo [1])=some (zd6.strip,zef,22):=by kernel_rfl
def zgw:ACode:=.seq (.region [ (oB 13 .lss 12 11)] []) (.seq (.cond (.t 13) (.skip) (.exit 0)) (.seq (.block 1 (.seq (.region [ (oM 14 12),(oM 4 14)] [13,14]) (.region [ (oM 15 3),(oM 16 4),(oA 17 2 1),(oM 18 4),(oN 19 (.call zeu [(.t 17),(.t 18)])),(oI 20 1 15 16),(oS 1 20 19)] [4,15,16,17,18,19,20]))) (.region [ (oC 21 .add 12 1),(oM 12 21)] [21])))
def zgj:ACode:=.seq (.region [ (oM 22 3),(oM 2 22)] [1,3,11,12,22]) (.ret)
def ziO:ACode:=.seq (.region [ Yaa,Yah] [0,2]) (.seq (.region [ (oF 5 1 1 1),(oL 6 5),(oE 7 6),(oN 8 (.mksl 1 24 [.nilsl] (.t 7) (.t 7))),(oM 3 8)] [5,6,7,8]) (.seq (.seq (.region [ (oF 9 1 1 1),(oL 10 9),(oE 11 10),(oK 12 0)] [9,10]) (.block 0 (.loop zgw))) (zgj)))
def ziT:List ARet:=[.tmp 2]
theorem zng:zT Tryz.prog zgf (qRo [1])=some (ziO.strip,ziT,23):=by kernel_rfl
def zdM:ACode:=.seq (.region [ Yaj,Yam] [0,4]) (.seq (.seq (.region [ (oM 8 1),(oL 9 2),(oE 10 9),(oB 11 .geq 8 10)] [8,9,10]) (.cond (.t 11) (.seq (.region [ Yam] [1,2,11]) (.ret)) (.skip))) (.seq (.region [ (oL 12 2),(oE 13 12),(oN 14 (.mksl 1 1 [.bool false] (.t 13) (.t 13))),(oN 5 (.alloc [.nilsl])),(oS 1 5 14)] [4,11,12,13,14]) (.seq (.region [ (oN 6 (.alloc [.nilsl]))] []) (.seq (.region [ (oN 7 (.alloc [.nilfn]))] []) (.seq (.region [ (oN 15 (.mkfn (.func zcb) [(.t 5),(.t 2),(.t 7),(.t 6)])),(oS 1 7 15)] [2,5,15]) (.seq (.region [ (oL 16 7),(oM 17 1),(oN 18 (.callv (.t 16) [(.t 17)]))] [1,7,16,17,18]) (.seq (.region [ (oL 19 6),(oN 20 (.call zbX [(.t 19)]))] [19,20]) (.seq (.region [ (oL 21 6),(oM 4 21)] [6,21]) (.ret)))))))))
def zdC:List ARet:=[.tmp 4]
theorem zgP:zT Tryz.prog zcQ (qRo [2])=some (zdM.strip,zdC,22):=by kernel_rfl
def zeQ:ACode:=.seq (.region [ (oM 42 7),(oN 43 (.mkfn (.func zcd) [(.t 2)])),(oN 44 (.call zbA [(.t 42),(.t 43)])),(oM 4 44)] [2,6,7,37,42,43,44]) (.ret)
def zgM:ACode:=.seq (.region [ Yaj,Yam] [0,4]) (.seq (.region [ (oF 8 1 1 2),(oL 9 8),(oM 10 1),(oI 11 2 9 10),(oF 12 1 1 11),(oL 13 12),(oM 5 13)] [1,8,9,10,11,12,13]) (.seq (.seq (.region [ (oM 14 5),(oE 15 14),(oC 16 .eql 15 0)] [14,15]) (.cond (.t 16) (.seq (.region [ Yam] [2,5,16]) (.ret)) (.skip))) (.seq (.region [ (oM 17 5),(oM 18 5),(oE 19 18),(oC 20 .sub 19 1),(oI 21 8 17 20),(oA 22 8 21),(oN 6 (.alloc [.int .i64 0,.int .i64 0,.int .i64 0,.int .i64 0,.int .i64 0,.int .u32 0,.nilsl,.nilsl])),(oS 8 6 22)] [4,5,16,17,18,19,20,21,22]) (.seq (.region [ (oN 7 (.mknil 1))] []) (.join (.seq (.region [ (oF 23 0 1 6),(oL 24 23)] [23]) (.block 0 (.seq (.region [ (oC 26 .eql 24 6),(oM 25 26)] [26]) (.cond (.t 25) (.region [ (oF 27 3 1 6),(oL 28 27),(oN 29 (.buildSl 1 1 [.int .i64 0] [(0,(.t 28))])),(oM 7 29)] [6,24,25,27,28,29]) (.seq (.region [ (oC 31 .eql 24 7),(oM 30 31)] [25,31]) (.cond (.t 30) (.region [ (oF 32 3 1 6),(oL 33 32),(oF 34 4 1 6),(oL 35 34),(oN 36 (.buildSl 1 2 [.int .i64 0] [(0,(.t 33)),(1,(.t 35))])),(oM 7 36)] [6,24,30,32,33,34,35,36]) (.seq (.region [ (oC 38 .eql 24 8),(oM 37 38)] [24,30,38]) (.cond (.t 37) (.region [ (oF 39 7 1 6),(oL 40 39),(oN 41 (.call zw [(.t 40)])),(oM 7 41)] [6,37,39,40,41]) (.skip))))))))) (zeQ))))))
def zdI:List ARet:=[.tmp 4]
theorem zlM:zT Tryz.prog zeu (qRo [2])=some (zgM.strip,zdI,45):=by kernel_rfl
def zdU:ACode:=.seq (.region [ (oB 17 .lss 16 15)] []) (.seq (.cond (.t 17) (.skip) (.exit 0)) (.seq (.block 1 (.seq (.region [ (oI 18 1 14 16),(oL 19 18),(oM 7 19)] [17,18,19]) (.seq (.region [ (oL 20 1),(oM 21 7),(oI 22 1 20 21),(oL 23 22),(oN 24 (.un .not (.t 23)))] [20,21,22,23]) (.cond (.t 24) (.region [ (oL 25 3),(oM 26 7),(oN 27 (.callv (.t 25) [(.t 26)]))] [7,24,25,26,27]) (.skip))))) (.region [ (oC 28 .add 16 1),(oM 16 28)] [7,24,28])))
def zdT:ACode:=.region [ (oL 29 4),(oM 30 0),(oN 31 (.buildSl 1 1 [.int .i64 0] [(0,(.t 30))])),(oN 32 (.append 1 8 (.t 29) (.t 31))),(oS 1 4 32)] [0,1,3,4,14,15,16,29,30,31,32]
def zfh:ACode:=.seq (.region [ (oL 8 1),(oM 9 0),(oI 10 1 8 9),⟨none,.store 1 (.t 10) (.c (.bool true)),none⟩] [8,9,10]) (.seq (.seq (.region [ (oL 11 2),(oM 12 0),(oI 13 1 11 12),(oL 14 13),(oE 15 14),(oK 16 0)] [2,11,12,13]) (.block 0 (.loop zdU))) (zdT))
def zfv:List ARet:=[]
theorem zj1:zT Tryz.prog zcb (qRo [])=some (zfh.strip,zfv,33):=by kernel_rfl
def zcu:ACode:=.seq (.seq (.region [ (oM 7 2),(oM 8 3),(oB 9 .lss 7 8)] [7,8]) (.cond (.t 9) (.skip) (.exit 0))) (.seq (.block 1 (.draw ( .step (oM 14 0) ( .step (oM 15 2) ( .step (oM 16 0) ( .step (oM 17 3) ( .step (oM 18 0) ( .step (oM 19 3) ( .step (oI 20 1 18 19) ( .step (oL 21 20) ( .step (oM 22 0) ( .step (oM 23 2) ( .alt (oI 24 1 22 23) ( .step (oL 25 24) ( .step (oI 26 1 14 15) ( .alt (oS 1 26 21) ( .step (oI 27 1 16 17) ( .alt (oS 1 27 25) ( .done) ( .stop))) ( .stop)))) ( .stop)))))))))))) [9,14,15,16,17,18,19,20,21,22,23,24,25,26,27])) (.region [ (oM 10 2),(oC 11 .add 10 1),(oM 12 3),(oC 13 .sub 12 1),(oM 2 11),(oM 3 13)] [10,11,12,13]))
def zdj:ACode:=.seq (.region [ (oM 4 0),(oE 5 4),(oC 6 .sub 5 1),(oK 2 0),(oM 3 6)] [4,5,6]) (.block 0 (.loop zcu))
def zdc:List ARet:=[]
theorem zhh:zT Tryz.prog zbX (qRo [])=some (zdj.strip,zdc,28):=by kernel_rfl
def zb5:ACode:=.seq (.seq (.region [ (oM 16 6),(oM 17 0),(oE 18 17),(oB 19 .lss 16 18)] [16,17,18]) (.cond (.t 19) (.skip) (.exit 0))) (.seq (.block 1 (.seq (.region [ (oM 22 0),(oM 23 6),(oI 24 1 22 23),(oL 25 24),(oM 7 25)] [19,22,23,24,25]) (.seq (.region [ (oM 26 1),(oM 27 7),(oN 28 (.callv (.t 26) [(.t 27)])),(oN 29 (.un .not (.t 28)))] [26,27,28]) (.cond (.t 29) (.seq (.region [ (oM 30 0),(oM 31 5),(oM 32 7),(oI 33 1 30 31),(oS 1 33 32)] [7,29,30,31,32,33]) (.region [ (oM 34 5),(oC 35 .add 34 1),(oM 5 35)] [34,35])) (.skip))))) (.region [ (oM 20 6),(oC 21 .add 20 1),(oM 6 21)] [7,20,21,29]))
def zbZ:ACode:=.seq (.region [ (oM 36 0),(oM 37 5),(oN 38 (.slice 1 (.t 36) (some (.t 37)) none)),⟨none,.clear 1 [.int .i64 0] (.t 38),none⟩] [1,6,36,37,38]) (.seq (.region [ (oM 39 0),(oM 40 5),(oN 41 (.slice 1 (.t 39) none (some (.t 40)))),(oM 4 41)] [0,5,39,40,41]) (.ret))
def zcz:ACode:=.seq (.region [ Yam] [4]) (.seq (.region [ (oM 8 0),(oM 9 1),(oN 10 (.call zak [(.t 8),(.t 9)])),(oM 5 10)] [8,9,10]) (.seq (.seq (.region [ (oM 11 5),(oC 12 .eql 11 (-1))] [11]) (.cond (.t 12) (.seq (.region [ (oM 13 0),(oM 4 13)] [0,1,5,12,13]) (.ret)) (.skip))) (.seq (.seq (.region [ (oM 14 5),(oC 15 .add 14 1),(oM 6 15)] [4,12,14,15]) (.block 0 (.loop zb5))) (zbZ))))
def zbt:List ARet:=[.tmp 4]
theorem zfT:zT Tryz.prog zbA (qRo [])=some (zcz.strip,zbt,42):=by kernel_rfl
def zfm:ACode:=.seq (.region [ Yao] [3]) (.seq (.region [ (oM 4 0),(oC 5 .lss 4 0),(oM 6 5),(oG 7 6 false (.mov (.t 0))),(oG 8 6 false (.fldaddr 1 1 (.t 1))),(oG 9 6 false (.load false 1 (.t 8))),(oG 10 6 false (.len (.t 9))),(oG 11 6 false (.bin .geq (.t 7) (.t 10))),(oN 12 (.pick (.t 6) (.c (.bool true)) (.t 11))),(oM 3 12)] [0,1,4,5,6,7,8,9,10,11,12]) (.ret))
def zc9:List ARet:=[.tmp 3]
theorem zj3:zT Tryz.prog zcd (qRo [])=some (zfm.strip,zc9,13):=by kernel_rfl
end Go.Ab
namespace Go.Ab.Dm
open Go.RowKit Go.Proofs
theorem zn {α β:Type} {f:α→β} {l:List α} {i:Nat} {d:β} (h:i < l.length):(l.map f).getD i d=f l[i]:=zfL (Wh h)
def ziA (n:Nat) (x:Int):Bool:=decide (0≤x)&&decide (x < n)
def _root_.Go.Ab.Gr.E (g:Gr):Adj:=g.blocks.map fun b=>(b.targets.filter (ziA g.blocks.length)).map Int.toNat
def _root_.Go.Ab.Gr.small (g:Gr):Prop:=g.blocks.length≤1000∧∀b∈g.blocks,b.targets.length≤1000
theorem _root_.Go.Ab.Gr.E_len (g:Gr):g.E.length=g.blocks.length:=by simp[Gr.E]
theorem _root_.Go.Ab.Gr.E_ok (g:Gr):g.E.ok:=by
 intro k n hn;unfold suc Gr.E at hn;rw[Wm,List.getElem?_map] at hn
 cases hb:g.blocks[k]? with
 | none=>rw[hb] at hn;simp at hn
 |
  some b =>
  rw[hb] at hn;simp only[Option.map_some,Option.getD_some,List.mem_map,List.mem_filter,ziA,Wj,decide_eq_true_eq] at hn;obtain⟨x,⟨_,h1,h2⟩,rfl⟩:=hn;rw[g.E_len];omega
theorem zsF (l:List Nat):za (l.map fun(n:Nat)=>(n:Int))=zbF l:=by simp[za,zbF,encL];rfl
theorem zdn {α:Type} {p:α→Bool} {l:List α} {i:Nat} (h:i < l.length):(l.take (i+1)).filter p=(l.take i).filter p++if p l[i] then [l[i]] else []:=by
 rw[Wn,Wh h,Wo]
 cases hp:p l[i]<;>simp[List.filter,hp]
structure NdL (n:Nat) (l:List Nat):Prop where
 nd:l.Nodup
 lt:∀b∈l,b < n
theorem NdL.len {n:Nat} {l:List Nat} (h:NdL n l):l.length≤n:=by
 obtain⟨h1,h2⟩:=h
 induction n generalizing l with
 |
  zero =>
  cases l with
  | nil=>exact Nat.le_refl _
  | cons b l=>exact absurd (h2 b (by simp)) (by omega)
 |
  succ n ih =>
  by_cases hn:n∈l
  ·
   have:=ih (h1.erase n) (fun b hb=>by
    have h3:=h2 b (List.mem_of_mem_erase hb);have h4:=(h1.mem_erase_iff.1 hb).1
    omega)
   rw[List.length_erase_of_mem hn] at this;omega
  ·
   have:=ih h1 (fun b hb=>by
    have h3:=h2 b hb
    have h4:b≠n:=fun e=>hn (e▸hb)
    omega)
   omega
theorem NdL.add {n:Nat} {l:List Nat} (h:NdL n l) {x:Int} {c:Nat} (hc:c < n):NdL n (zeE x l c):=by
 unfold zeE;split
 ·
  rename_i hx;refine⟨?_,fun b hb=>?_⟩
  · rw[Wp];exact⟨h.nd,by simp,fun a ha b hb=>by simp at hb;subst hb;exact fun e=>hx.2 (e▸ha)⟩
  ·
   rcases List.mem_append.1 hb with hb|hb
   · exact h.lt b hb
   · simp at hb;subst hb;exact hc
 · exact h
theorem NdL.fold {n:Nat} {x:Int}:∀ {cs l:List Nat},NdL n l→(∀c∈cs,c < n)→NdL n (cs.foldl (zeE x) l)
 | [],l,h,_=>h
 | c::cs,l,h,hc=>show NdL n (cs.foldl (zeE x) (zeE x l c)) from NdL.fold (x:=x) (h.add (x:=x) (hc c (by simp))) (fun d hd=>hc d (by simp[hd]))
theorem zi7 {α β:Type} {f:β→α→β} {b:β} {l:List α} {i:Nat} (h:i < l.length):(l.take (i+1)).foldl f b=f ((l.take i).foldl f b) l[i]:=by rw[Wn,Wh h,List.foldl_append];rfl
theorem zhA (p:Nat→Bool) (n:Nat):(Wd (n+1)).filter p=(Wd n).filter p++if p n then [n] else []:=by
 rw[List.range_succ,Wo]
 cases h:p n<;>simp[List.filter,h]
theorem zm8 (p:Nat→Bool) (n:Nat):((Wd n).filter p).length≤n:=by
 have:=List.length_filter_le p (Wd n)
 simpa using this
def mapR {α:Type} (f:Nat→α) (n:Nat):List α:=(Wd n).map f
def filR (p:Nat→Bool) (n:Nat):List Nat:=(Wd n).filter p
theorem zzw {α:Type} {f:Nat→α} {n:Nat}:(mapR f n).length=n:=by simp[mapR]
theorem zvl {p:Nat→Bool} {n:Nat} (h:p n=true):filR p (n+1)=filR p n++[n]:=by unfold filR;rw[zhA,h];rfl
theorem zqG {p:Nat→Bool} {n:Nat} (h:p n=false):filR p (n+1)=filR p n:=by unfold filR;rw[zhA,h];simp
theorem zxx {p:Nat→Bool} {n:Nat}:(filR p n).length≤n:=zm8 p n
def znl (A:List (List Nat)):AV:=encL 1 (fun r=>[zbF r]) A
abbrev cNs (l:List Nat):List AV:=[zbF l]
theorem vw_NN {H H2:AH} {σ:Nat→Nat→Option (Nat × Nat × Nat)} {D:Nat→Nat→Prop} {t:Bool} {r q g:Nat} {l:List (List Nat)} (hD:D r q) (hg:H.get r q=some (.row 1 (l.map cNs) g)) (hb:l.length≤big) :
  Vw H H2 σ D t (.own r q g 0 l.length) (znl l):=by
 refine zop hD hg hb (fun a _ j hj=>?_)
 obtain rfl:j=0:=by omega
 exact .sl _ _ _ _
def zco (E:Adj) (f:Nat) (s:List Nat × List Nat) (n:Nat):List Nat × List Nat:=if n∈s.1 then s else dfs E f n s
theorem zrc (E:Adj) (f k:Nat) (s:List Nat × List Nat) :
  dfs E (f+1) k s=(((suc E k).foldl (zco E f) (s.1++[k],s.2)).1,((suc E k).foldl (zco E f) (s.1++[k],s.2)).2++[k]):=rfl
structure DfsI (n m d:Nat) (s:List Nat × List Nat):Prop where
 nd:NdL n s.1
 le:m≤s.1.length
 post:s.1.length=s.2.length+d
theorem NdL.snoc {n:Nat} {l:List Nat} (h:NdL n l) {k:Nat} (hk:k < n) (hn:k∉l):NdL n (l++[k]):=by
 refine⟨?_,fun b hb=>?_⟩
 · rw[Wp];exact⟨h.nd,by simp,fun a ha b hb=>by simp at hb;subst hb;exact fun e=>hn (e▸ha)⟩
 ·
  rcases List.mem_append.1 hb with hb|hb
  · exact h.lt b hb
  · simp at hb;subst hb;exact hk
theorem zkW {E:Adj} {f m d:Nat} (h:∀(k:Nat) (s:List Nat × List Nat),DfsI E.length m d s→k < E.length→k∉s.1→DfsI E.length m d (dfs E f k s)) :
  ∀(cs:List Nat) (t:List Nat × List Nat),(∀c∈cs,c < E.length)→DfsI E.length m d t→DfsI E.length m d (cs.foldl (zco E f) t)
 | [],t,_,ht=>ht
 |
  c::cs,t,hc,ht=>by
  refine zkW h cs (zco E f t c) (fun d hd=>hc d (by simp[hd])) ?_;unfold zco;split
  · exact ht
  · exact h c t ht (hc c (by simp)) ‹_›
theorem zoZ {E:Adj} (hE:E.ok):∀(f m d k:Nat) (s:List Nat × List Nat),DfsI E.length m d s→k < E.length→k∉s.1→DfsI E.length m d (dfs E f k s)
 | 0,_,_,_,_,h,_,_=>h
 |
  f+1,m,d,k,s,h,hk,hn=>by
  rw[zrc];have:=zkW (zoZ hE f m (d+1)) (suc E k) (s.1++[k],s.2) (hE k) ⟨h.nd.snoc hk hn,by have:=h.le;simp;omega,by have:=h.post;simp;omega⟩;exact⟨this.nd,this.le,by have:=this.post;simp;omega⟩
theorem zBP {A:List (List Nat)} {i:Nat} (h:i < A.length):suc A i=A[i]:=by simp[suc,Wm,h]
end Go.Ab.Dm
