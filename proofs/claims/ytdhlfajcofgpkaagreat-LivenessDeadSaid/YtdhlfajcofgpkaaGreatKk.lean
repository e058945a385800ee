/-
  Part 11 of the proof: how the calls of this program run, over values instead of memory, and what each function computes.
-/
import Derived.KernelRfl
import Derived.Test.YtdhlfajcofgpkaaGreatKj
set_option maxRecDepth 100000
set_option linter.unusedVariables false
set_option linter.unusedSimpArgs false
set_option linter.unnecessarySimpa false
set_option linter.unusedSectionVars false
open List renaming getElem_mem→Wa,getD_eq_getElem?_getD→Wb,length_map→Wf,map_cons→Wg,getLast?_cons_cons→Wh,cons_append→Wi,nil_append→Wj,length_nil→Wk,take_of_length_le→Wl,getElem?_eq_getElem→Wm,map_append→Wn,map_nil→Wo,length_take→Wq,sum_cons→Wr,take_add_one→Ws,take_length→Wt,all_eq_true→Wv,length_cons→Ww,eq_nil_of_length_eq_zero→Wx,drop_of_length_le→Wy,mem_iff_getElem→Wz,getElem_cons_zero→WA,mem_map→WB,ext_getElem→WD,mem_flatMap→WE,drop_eq_getElem_cons→WF,getD_cons_zero→WG,getD_cons_succ→WH,getLast?_nil→WJ,getLast?_eq_none_iff→WK,getElem?_map→WL,ext_getElem?→WM,length_reverse→WN,reverse_cons→WO,getElem_mapIdx→WP
open Bool renaming and_eq_true→Wc,not_eq_true'→WI
open Nat renaming le_refl→Wd,zero_le→We,le_trans→Wu,sub_self→WC
open And renaming intro→Wp
namespace Go.Ab
open Go.RowKit Go.Proofs
structure FewV (exit:List Int) (bl:List Bl):Prop where
 sz:∀b∈bl,∀s∈b.stmts,zF s.e≤100000
 len:bl.length≤1000000
 stmts:∀b∈bl,b.stmts.length≤1000000
 ts:∀b∈bl,(zG b.stmts).length≤1000000
 uni:(univ exit bl).length+exit.length≤400000
theorem zA1 {exit:List Int} {bl:List Bl} {b:Bl} (hb:b∈bl) {s:St} (hs:s∈b.stmts):∀x∈zfm s,x∈univ exit bl:=fun x hx =>
 List.mem_append_right _ (WE.2 ⟨b,hb,WE.2 ⟨s,hs,hx⟩⟩)
theorem renL {ρ:Nat→Nat} {l:List (List Int)} {g:Nat}:AObj.ren ρ (.row 1 (l.map cLL) g)=.row 1 (l.map cLL) g:=by simp only[AObj.ren];rw[zg7 (zj zEc)]
structure RunL (exit:List Int) (bl:List Bl) (ins:List (List Int)) (k:Nat) (c:Bool):Prop where
 inv:LInvU exit bl ins
 fuel:zmw exit bl≤k+zcV ins
 go:fixL exit bl k ins=za2 exit bl
 done:c=false→ins=za2 exit bl
theorem zn0:∀(l:List St) (h:l.length - 1 < l.length),endsOk l=(zcm (l[l.length - 1]'h) && !((l.take (l.length - 1)).any zcm))
 | [],h=>by simp at h
 |
  [x],h=>by
  rw[endsOk,endsOk];simp
 |
  x::y::l,h=>by
  have ih:=zn0 (y::l) (by simp);rw[endsOk,ih];simp only[Ww,Nat.add_sub_cancel,List.isEmpty_cons,List.take_succ_cons,List.any_cons];have e:(x::y::l)[l.length+1]=(y::l)[l.length]:=rfl;rw[e]
  cases zcm x<;>cases zcm (y::l)[l.length]<;>simp
theorem zDU {α:Type} {f:α→List AV} {H H2:AH} {σ:Nat→Nat→Option (Nat × Nat × Nat)} {D:Nat→Nat→Prop} {t:Bool} {l:List α} {sz i n z:Nat} (hi:i≤l.length) (hn:n=i) (hz:z=0) (hf:∀a,zM (f a)=true) :
  Vw H H2 σ D t (.sl sz n (fun a j=>((l.map f).getD (z+a) []).getD j .undef)) (encL sz f (l.take i)):=by
 subst hn hz
 have e:(l.take n).length=n:=by rw[Wq];omega
 unfold encL;rw[e];refine .slf _ _ _ _ _ (fun a j ha hj=>?_)
 have e2:(List.map f (List.take n l)).getD a []=(l.map f).getD (0+a) []:=by rw[Nat.zero_add,List.map_take,Wb,List.getElem?_take_of_lt ha,Wb]
 rw[e2,zq (show 0+a < l.length by omega),Wb]
 cases hx:(f l[0+a])[j]? with
 | none=>exact .undef _ _
 | some x=>exact zN (zbg (hf _) hx)
theorem zsp (l:List St):PredT (.fn (.func zcO) []) l zcm:=⟨_,_,rfl,by kernel_rfl,rfl,fun s _=>zjg s⟩
theorem QM {p q:Prop}(k:q)(h:Im q p:=by(repeat first|simp(disch:=try exact dis1) only[evD,Nat.reduceBEq,Nat.reduceAdd,Nat.reduceLeDiff,fldP,dT,dF,zeQ] | ((with_reducible apply Im.i);intro _) | ((with_reducible apply Im.a);omega));exact Im.r):p:=h k
theorem zrF (t ad:Int) (l:List Bl):zu Tryz.prog zfT [.int .i64 t,encP 2 [.int .u32 ad,encL 2 Bl.cells l]] (·=.bool (!inN l.length t)):=by
 refine fn_x zrb rfl ?_;unfold zlm inN;have hB:=hBig
 by_cases h0:0≤t
 ·
  by_cases h1:t < l.length
  ·
   rw[decide_eq_true ⟨h0,h1⟩]
   (refine QM ?_;intros)
   exact⟨_,.bool _ _,rfl⟩
  ·
   rw[decide_eq_false (fun h=>h1 h.2)]
   (refine QM ?_;intros)
   exact⟨_,.bool _ _,rfl⟩
 ·
  rw[decide_eq_false (fun h=>h0 h.1)]
  (refine QM ?_;intros)
  exact⟨_,.bool _ _,rfl⟩
theorem zoC (ad:Int) (l:List Bl) (m:List Int):PredI (.fn (.func zfT) [encP 2 [.int .u32 ad,encL 2 Bl.cells l]]) m (fun t => !inN l.length t):=⟨_,_,rfl,by kernel_rfl,rfl,fun s _=>zrF s ad l⟩
theorem Qz {p q:Prop}(k:q)(h:Im q p:=by(repeat first|simp(disch:=try exact dis1) only[evD,Nat.reduceBEq,Nat.reduceAdd,Nat.reduceLeDiff,zcP] | ((with_reducible apply Im.i);intro _) | ((with_reducible apply Im.a);omega));exact Im.r):p:=h k
theorem zvJ (g:G) (hf:fewB g) (hc:∀b∈g.blocks,∀s∈b.stmts,s.cases.length≤100000000):zu Tryz.prog zl9 [.agg g.cells] (·=.bool (!g.blocks.isEmpty&&g.blocks.all fun b=>zdx b.stmts g.blocks.length)):=by
 refine fn_x zt6 rfl ?_;unfold zoi;have hB:=hBig;obtain⟨hb,hs⟩:=hf;obtain⟨ad,l⟩:=g;simp only at hb hs hc;simp only[G.cells]
 by_cases h0:l.length=0
 ·
  obtain rfl:l=[]:=Wx h0
  (repeat first|simp(disch:=try exact dis1) only[evD,Nat.reduceBEq,Nat.reduceAdd,Nat.reduceLeDiff,fldP,dT,Wk,zcP]|with_reducible first|intro _|refine aJ ?_)
  exact⟨_,.bool _ _,rfl⟩
 have he:l.isEmpty=false:=by cases l with|nil=>simp at h0|cons a l=>rfl
 rw[he];generalize hR:(l.all fun b=>zdx b.stmts l.length)=R
 (refine Qh ?_;intros)
 refine zk (fun i:Nat=>([(1,encP 2 [.int .u32 ad,encL 2 Bl.cells l]),(11,encL 2 Bl.cells l),(12,.int .i64 l.length),(13,.int .i64 i)],[])) 0 (fun i=>i≤l.length∧((l.drop i).all fun b=>zdx b.stmts l.length)=R) (fun i=>l.length - i) 0 ⟨We _,hR⟩ (Ent.keep rfl fin5) ?_;rintro i ⟨hi,hgo⟩ wf;unfold zkk
 by_cases hl:i < l.length
 ·
  have hg:(l.map Bl.cells).getD i []=[.int .u32 l[i].addr,encL 8 St.cells l[i].stmts]:=zq hl;have hss:=zjp l[i] (hc _ (Wa hl));rw[WF hl,List.all_cons] at hgo;simp only[Bl.cells] at hss;generalize l[i].stmts=m at hg hgo hss;generalize l[i].addr=ad' at hg hss
  by_cases hm0:m.length=0
  ·
   obtain rfl:m=[]:=Wx hm0
   replace hgo:R=false:=by rw[←hgo];rfl
   subst hgo
   (repeat first|simp(disch:=try exact dis1) only[evD,Nat.reduceBEq,Nat.reduceAdd,Nat.reduceLeDiff,fldP,dT,hg,Wk,zcP]|with_reducible first|intro _|refine aJ ?_)
   exact⟨_,.bool _ _,rfl⟩
  have hlast:m.length - 1 < m.length:=by omega
  have hidx:(((m.length:Nat):Int) - 1).toNat=m.length - 1:=by omega
  have hme:m.isEmpty=false:=by cases m with|nil=>simp at hm0|cons a l=>rfl
  unfold zdx at hgo;rw[hme,zn0 m hlast] at hgo
  (repeat first|simp(disch:=try exact dis1) only[evD,Nat.reduceBEq,Nat.reduceAdd,Nat.reduceLeDiff,fldP,dT,dF,hg,hidx,zq hlast,St.len,St.eight]|with_reducible first|intro _|refine aJ ?_)
  refine ze (zd (zjg m[m.length - 1]) rfl) ?_;generalize zcm m[m.length - 1]=q at hgo
  cases q with
  |
   false =>
   replace hgo:R=false:=by rw[←hgo];rfl
   subst hgo
   (refine Qz ?_;intros)
   exact⟨_,.bool _ _,rfl⟩
  |
   true =>
   (repeat first|simp(disch:=try exact dis1) only[evD,Nat.reduceBEq,Nat.reduceAdd,Nat.reduceLeDiff,fldP,zgm,hidx]|with_reducible first|intro _|refine aJ ?_)
   refine ze (zbb (D:=noR) (ziZ (m.take (m.length - 1)) _ _ (zsp _)) (.cons (zDU (by omega) (by omega) rfl (fun _=>rfl)) (.cons (zyA (zsp (m.take (m.length - 1)))) .nil)) (.inl rfl)) ?_;generalize (m.take (m.length - 1)).any zcm=q at hgo
   cases q with
   |
    true =>
    replace hgo:R=false:=by rw[←hgo];rfl
    subst hgo
    (refine Qz ?_;intros)
    exact⟨_,.bool _ _,rfl⟩
   |
    false =>
    (refine Ql ?_;intros)
    refine ze (zd hss rfl) ?_
    (refine Ql ?_;intros)
    refine ze (zbb (D:=noR) (zis (zG m) _ _ (zoC ad l _)) (.cons (zat rfl) (.cons (zx3 (zoC ad l (zG m))) .nil)) (.inl rfl)) ?_;rw[List.all_eq_not_any_not] at hgo;generalize ((zG m).any fun t => !inN l.length t)=q at hgo
    cases q with
    |
     true =>
     replace hgo:R=false:=by rw[←hgo];rfl
     subst hgo
     (refine Qz ?_;intros)
     exact⟨_,.bool _ _,rfl⟩
    |
     false =>
     replace hgo:((l.drop (i+1)).all fun b=>zdx b.stmts l.length)=R:=by rw[←hgo];rfl
     (refine Qa ?_;intros)
     exact⟨i+1,⟨by omega,hgo⟩,by omega,(Ent.tab [] [] rfl Qat Qat)⟩
 ·
  rw[Wy (by omega)] at hgo
  replace hgo:R=true:=by rw[←hgo];rfl
  subst hgo
  (refine Qh ?_;intros)
  unfold zkl
  (refine Qz ?_;intros)
  exact⟨_,.bool _ _,rfl⟩
theorem Qah {p q:Prop}(k:q)(h:Im q p:=by(repeat first|simp(disch:=try exact dis1) only[evD,Nat.reduceBEq,Nat.reduceAdd,Nat.reduceLeDiff,zbE] | ((with_reducible apply Im.i);intro _) | ((with_reducible apply Im.a);omega));exact Im.r):p:=h k
theorem zoV (g:G) (hf:fewB g) (hc:∀b∈g.blocks,∀s∈b.stmts,s.cases.length≤100000000):zu Tryz.prog zgA [.agg g.cells] (·=.int .i64 (zfs g)):=by
 refine fn_x zoX rfl ?_;unfold zjj;have hB:=hBig;have hsh:=zvJ g hf hc;obtain⟨hb,hs⟩:=hf;obtain⟨ad,l⟩:=g;simp only at hb hs hsh;simp only[G.cells,zfs,zx9] at hsh ⊢
 (refine Ql ?_;intros)
 refine zk (fun s:Nat × Nat=>([(1,encP 2 [.int .u32 ad,encL 2 Bl.cells l]),(3,.int .i64 s.2),(12,encL 2 Bl.cells l),(13,.int .i64 l.length),(14,.int .i64 s.1)],[])) 0 (fun s=>s.1≤l.length∧s.2=zJ (l.take s.1)∧s.2≤1100 * s.1) (fun s=>l.length - s.1) (0,0) ⟨We _,rfl,Wd _⟩ (Ent.keep rfl fin5) ?_;rintro⟨i,n⟩ ⟨hi,hct,hn⟩ wf;simp only at hi hn hct;unfold zgH
 by_cases hl:i < l.length
 ·
  have hg:(l.map Bl.cells).getD i []=[.int .u32 l[i].addr,encL 8 St.cells l[i].stmts]:=zq hl;have hsl:=hs l[i] (Wa hl)
  (repeat first|simp(disch:=try exact dis1) only[evD,Nat.reduceBEq,Nat.reduceAdd,Nat.reduceLeDiff,fldP,dT,hg]|with_reducible first|intro _|refine aJ ?_)
  exact⟨(i+1,n+l[i].stmts.length),⟨by simp only;omega,by simp only;rw[zp7 hl,hct],by simp only;omega⟩,by simp only;omega,(Ent.tab [] [] rfl Qat Qat)⟩
 rw[Wl (by omega)] at hct
 (refine Qh ?_;intros)
 unfold zgI
 by_cases h256:256 < l.length
 ·
  rw[if_pos (.inl h256)]
  (repeat first|simp(disch:=try exact dis1) only[evD,Nat.reduceBEq,Nat.reduceAdd,Nat.reduceLeDiff,fldP,dT,zbE]|with_reducible first|intro _|refine aJ ?_)
  exact⟨_,.int _ _ _,rfl⟩
 by_cases h1024:1024 < n
 ·
  rw[if_pos (.inr (by omega))]
  (repeat first|simp(disch:=try exact dis1) only[evD,Nat.reduceBEq,Nat.reduceAdd,Nat.reduceLeDiff,fldP,dT,dF,zbE]|with_reducible first|intro _|refine aJ ?_)
  exact⟨_,.int _ _ _,rfl⟩
 rw[if_neg (by omega)]
 (repeat first|simp(disch:=try exact dis1) only[evD,Nat.reduceBEq,Nat.reduceAdd,Nat.reduceLeDiff,fldP,dF,zac,tab,WG,WH]|with_reducible first|intro _|refine aJ ?_)
 refine ze (zd hsh rfl) ?_;generalize (!l.isEmpty&&l.all fun b=>zdx b.stmts l.length)=q
 cases q with
 |
  false =>
  (refine Qah ?_;intros)
  exact⟨_,.int _ _ _,rfl⟩
 | true =>
 rw[if_pos rfl]
 (refine Ql ?_;intros)
 refine zk (fun i:Nat=>([(36,encL 2 Bl.cells l),(37,.int .i64 l.length),(38,.int .i64 i)],[])) 0 (fun i=>i≤l.length∧zho (l.drop i)=zho l) (fun i=>l.length - i) 0 ⟨We _,rfl⟩ (Ent.keep rfl fin5) ?_;rintro i ⟨hi,hgo⟩ wf;unfold zgc
 by_cases hl:i < l.length
 ·
  have hg:(l.map Bl.cells).getD i []=[.int .u32 l[i].addr,encL 8 St.cells l[i].stmts]:=zq hl;have hsl:=hs l[i] (Wa hl);rw[zpU hl] at hgo
  (repeat first|simp(disch:=try exact dis1) only[evD,Nat.reduceBEq,Nat.reduceAdd,Nat.reduceLeDiff,fldP,dT,hg]|with_reducible first|intro _|refine aJ ?_)
  generalize l[i].stmts=m at hg hgo hsl;generalize l[i].addr=ad' at hg;refine zk (fun j:Nat=>([(36,encL 2 Bl.cells l),(37,.int .i64 l.length),(38,.int .i64 i),(43,encL 8 St.cells m),(44,.int .i64 m.length),(45,.int .i64 j)],[])) 0 (fun j=>j≤m.length∧zeu (m.drop j)=zeu m) (fun j=>m.length - j) 0 ⟨We _,rfl⟩ (Ent.tab [] [] rfl Qat Qat) ?_;rintro j ⟨hj,hgo2⟩ wf2;unfold zgE
  by_cases hm:j < m.length
  ·
   rw[zqj hm] at hgo2
   (repeat first|simp(disch:=try exact dis1) only[evD,Nat.reduceBEq,Nat.reduceAdd,Nat.reduceLeDiff,fldP,dT,zq hm,St.len,St.eight,St.flat]|with_reducible first|intro _|refine aJ ?_)
   refine ze (zd (zpC m[j]) rfl) ?_
   by_cases hx:m[j].check=0
   ·
    rw[if_neg (by omega)] at hgo2
    (refine Qg ?_;intros)
    exact⟨j+1,⟨by omega,hgo2⟩,by omega,(Ent.tab [] [] rfl Qat Qat)⟩
   ·
    rw[if_pos hx] at hgo2;rw[←hgo2,if_pos hx] at hgo;rw[←hgo]
    (repeat first|simp(disch:=try exact dis1) only[evD,Nat.reduceBEq,Nat.reduceAdd,Nat.reduceLeDiff,dT,zbE]|with_reducible first|intro _|refine aJ ?_)
    exact⟨_,.int _ _ _,rfl⟩
  ·
   rw[Wy (by omega),zeu] at hgo2;rw[←hgo2,if_neg (by omega)] at hgo
   (refine Qh ?_;intros)
   unfold zgF
   (refine Qa ?_;intros)
   exact⟨i+1,⟨by omega,hgo⟩,by omega,Ent.keep rfl fin5⟩
 rw[Wy (by omega),zho] at hgo;rw[←hgo]
 (refine Qh ?_;intros)
 unfold zgO
 (refine Qah ?_;intros)
 exact⟨_,.int _ _ _,rfl⟩
mutual
def zjP:Ex→Bool
 | .mk op _ _ _ l=>decide (op=18)||zl0 l
def zl0:List Ex→Bool
 | []=>false
 | x::l=>zjP x||zl0 l
end
theorem zqZ:∀l:List Ex,zl0 l=l.any zjP
 | []=>by rw[zl0];rfl
 | x::l=>by rw[zl0,zqZ l];rfl
theorem znG:∀(k:Nat) (e:Ex),zbq e≤k→zu Tryz.prog zbG [.agg (encX e)] (·=.bool (zjP e)):=by
 intro k
 induction k with
 | zero=>intro e h;obtain⟨_,_,_,_,l⟩:=e;rw[zbq] at h;omega
 | succ k ih =>
 intro e hk;obtain⟨op,nn,v,w,l⟩:=e;refine fn_x znl rfl ?_;unfold zhR;have hB:=hBig;rw[zbq] at hk;rw[zbo,zjP,zqZ]
 by_cases h1:op=18
 ·
  rw[decide_eq_true h1,Bool.true_or]
  (repeat first|simp(disch:=try exact dis1) only[evD,Nat.reduceBEq,Nat.reduceAdd,Nat.reduceLeDiff,fldP,dT,encP,zeD]|with_reducible first|intro _|refine aJ ?_)
  exact⟨_,.bool _ _,rfl⟩
 ·
  rw[decide_eq_false h1,Bool.false_or];have hp:PredE (.fn (.func zbG) []) l zjP:=⟨_,_,rfl,by kernel_rfl,rfl,fun s hs=>ih s (by have:=zcK hs;omega)⟩
  (refine Qh ?_;intros)
  refine ze (zbb (D:=noR) (zP l _ _ hp) (.cons (zat rfl) (.cons (zds hp) .nil)) (.inl rfl)) ?_
  (repeat first|simp(disch:=try exact dis1) only[evD,Nat.reduceBEq,Nat.reduceAdd,Nat.reduceLeDiff,zeD]|with_reducible first|intro _|refine aJ ?_)
  exact⟨_,.bool _ _,rfl⟩
theorem zpg (l:List Ex):PredE (.fn (.func zbG) []) l zjP:=⟨_,_,rfl,by kernel_rfl,rfl,fun s _=>znG _ s (Wd _)⟩
def remS (s:St) (a:List Int):Bool:=decide (s.op=1)&&(!decide (s.var∈a) && !s.e.any zjP)
theorem zjT (s:St) (a:MS):zad Tryz.prog zdc [.agg s.cells,.mp 0 0] [(0,.row 3 ((setM a.1 a.2).map cm) 0)] 1
  (fun v H nx=>v=.bool (remS s a.keys)∧H=[(0,.row 3 ((setM a.1 a.2).map cm) 0)]∧nx=1):=by
 refine zbc (fn_x zjN rfl ?_);unfold ze0;have hB:=hBig;obtain⟨c,ps⟩:=a;obtain⟨op,var,width,next,els,tgt,l,cs⟩:=s;unfold remS MS.keys;simp only
 by_cases h1:op=1
 ·
  rw[decide_eq_true h1,Bool.true_and]
  by_cases hm:var∈ps.map (·.1)
  ·
   obtain⟨j,hj,hje,hf⟩:=zml hm;rw[decide_eq_true hm]
   (repeat first|simp(disch:=try exact dis1) only[evD,Nat.reduceBEq,Nat.reduceAdd,Nat.reduceLeDiff,fldP,St.cells,za,dT,zB,hf,zbH,Bool.not_true,Bool.false_and]|with_reducible first|intro _|refine aJ ?_)
   exact⟨.bool false,_,_,(Ent.tabB [(0,0,0)] [] rfl rfl rfl Qau Qau),rfl,rfl,rfl⟩
  ·
   have hf:=zkU hm;rw[decide_eq_false hm]
   (repeat first|simp(disch:=try exact dis1) only[evD,Nat.reduceBEq,Nat.reduceAdd,Nat.reduceLeDiff,fldP,St.cells,za,dT,zB,hf]|with_reducible first|intro _|refine aJ ?_)
   refine ze (zbb (D:=noR) (zP l _ _ (zpg l)) (.cons (zat rfl) (.cons (zds (zpg l)) .nil)) (.inl rfl)) ?_
   (repeat first|simp(disch:=try exact dis1) only[evD,Nat.reduceBEq,Nat.reduceAdd,Nat.reduceLeDiff,zbH,Bool.not_false,Bool.true_and]|with_reducible first|intro _|refine aJ ?_)
   exact⟨.bool (!l.any zjP),_,_,(Ent.tabB [(0,0,0)] [] rfl rfl rfl Qau Qau),rfl,rfl,rfl⟩
 ·
  rw[decide_eq_false h1,Bool.false_and]
  (repeat first|simp(disch:=try exact dis1) only[evD,Nat.reduceBEq,Nat.reduceAdd,Nat.reduceLeDiff,fldP,St.cells,za,dF,zB,zbH]|with_reducible first|intro _|refine aJ ?_)
  exact⟨.bool false,_,_,(Ent.tabB [(0,0,0)] [] rfl rfl rfl Qau Qau),rfl,rfl,rfl⟩
theorem Qbn {p:Prop}(h:p:=by(try simp only[evWB,Nat.reduceBEq,Nat.reduceAdd,Nat.reduceSub,Nat.reduceLeDiff,Nat.reduceLT,implies_true,List.take_zero])<;>exact fin2):p:=h
theorem znJ:∀(k:Nat) (e:Ex),zbq e≤k→k≤1000000→zu Tryz.prog zdq [.agg (encX e)] (·=.agg (encX e)):=by
 intro k
 induction k with
 | zero=>intro e h;obtain⟨_,_,_,_,l⟩:=e;rw[zbq] at h;omega
 | succ k ih =>
 intro e hk hk2;obtain⟨op,nn,v,w,l⟩:=e;refine fn_x znT rfl ?_;unfold zh7;have hB:=hBig;rw[zbq] at hk;have hll:l.length≤zF l:=zkC l;rw[zbo]
 (refine Ql ?_;intros)
 refine zk (fun i:Nat=>([(1,.ptr 0 0 0 0 0),(2,.ptr 1 0 0 0 0),(3,.own 2 0 0 0 i),(7,encL 5 encX l),(8,.int .i64 l.length),(9,.int .i64 i)],[(0,.row 5 [[.int .i64 op,.int .u32 nn,.int .i64 v,.int .i64 w,encL 5 encX l]] 0),(1,.row 5 [[.int .i64 0,.int .u32 0,.int .i64 0,.int .i64 0,.nilsl]] 0),(2,.row 5 ((l.take i).map encX) 0)])) 3
  (fun i=>i≤l.length) (fun i=>l.length - i) 0 (We _) (Ent.tab [(0,0,0),(1,1,0),(2,2,0)] [] rfl Qbn Qbn) ?_
 rintro i hi wf;unfold zfD
 by_cases hil:i < l.length
 ·
  have hm:=zcK (Wa hil)
  have htk:(l.take (i+1)).map encX=(l.take i).map encX++[encX l[i]]:=by rw[Ws,Wm hil,Wn];rfl
  have htl:((l.take i).map encX).length=i:=by rw[Wf,Wq];omega
  generalize l.take i=T at htk htl ⊢;have htT:(T.map encX).take i=T.map encX:=Wl (by omega)
  (repeat first|simp(disch:=try exact dis1) only[evD,Nat.reduceBEq,Nat.reduceAdd,Nat.reduceLeDiff,fldP,dT,zq hil,zaI,zai,zb]|with_reducible first|intro _|refine aJ ?_)
  refine ze (zd (ih l[i] (by omega) (by omega)) (flX rfl)) ?_
  (repeat first|simp(disch:=try exact dis1) only[evD,Nat.reduceBEq,Nat.reduceAdd,Nat.reduceLeDiff,zaI,zai,zb,htl,htT]|with_reducible first|intro _|refine aJ ?_)
  refine⟨i+1,by omega,by omega,?_⟩;exact(Ent.tab [(0,0,0),(1,1,0),(2,2,1)] [] rfl (by(try simp only[evWB,Nat.reduceBEq,Nat.reduceAdd,Nat.reduceSub,Nat.reduceLeDiff,Nat.reduceLT,implies_true,htk])<;>exact fin7) (by(try simp only[evWB,Nat.reduceBEq,Nat.reduceAdd,Nat.reduceSub,Nat.reduceLeDiff,Nat.reduceLT,implies_true,htk])<;>exact fin7))
 ·
  obtain rfl:i=l.length:=by omega
  rw[Wt]
  (refine Qh ?_;intros)
  unfold zfq
  (refine Ql ?_;intros)
  (repeat first|simp(disch:=try exact dis1) only[evD,Nat.reduceBEq,Nat.reduceAdd,Nat.reduceLeDiff,zhS]|with_reducible first|intro _|refine aJ ?_)
  refine⟨.agg [.int .i64 op,.int .u32 nn,.int .i64 v,.int .i64 w,encL 5 encX l],.agg _ _ _ rfl (fun j a c h1 h2=>?_),rfl⟩
  match j with
  | 0=>cases h1;cases h2;exact .int _ _ _
  | 1=>cases h1;cases h2;exact .int _ _ _
  | 2=>cases h1;cases h2;exact .int _ _ _
  | 3=>cases h1;cases h2;exact .int _ _ _
  | 4=>cases h1;cases h2;exact zo8 trivial rfl (by omega)
  | j+5=>cases h1
theorem zFY {H H2:AH} {σ:Nat→Nat→Option (Nat × Nat × Nat)} {D:Nat→Nat→Prop} {t:Bool} {r q g:Nat} {l:List St} (hD:D r q) (hg:H.get r q=some (.row 8 (l.map St.cells) g)) (hb:l.length≤big):Vw H H2 σ D t (.own r q g 0 l.length) (encL 8 St.cells l) :=
 zhG hD hg hb fun a _ j _=>by
  rw[Wb]
  cases hx:a.cells[j]? with
  | none=>exact .undef _ _
  | some x=>exact zN (zbg a.flat hx)
theorem zBl {H H2:AH} {σ:Nat→Nat→Option (Nat × Nat × Nat)} {D:Nat→Nat→Prop} {t:Bool} {r q g:Nat} {l:List Bl} (hD:D r q) (hg:H.get r q=some (.row 2 (l.map Bl.cells) g)) (hb:l.length≤big):Vw H H2 σ D t (.own r q g 0 l.length) (encL 2 Bl.cells l) :=
 zhG hD hg hb fun a _ j _=>by
  rw[Wb]
  cases hx:a.cells[j]? with
  | none=>exact .undef _ _
  | some x=>exact zN (zbg (show zM a.cells=true from rfl) hx)
theorem Qbo {p:Prop}(h:p:=by(try simp only[evWB,Nat.reduceBEq,Nat.reduceAdd,Nat.reduceSub,Nat.reduceLeDiff,Nat.reduceLT,implies_true,List.map_append,List.map_cons,List.map_nil,St.cells])<;>exact fin7):p:=h
theorem zBV {Q:QT} (ad ad2:Int) (bl:List Bl) (done:List Bl) (i:Nat) (sts:List St) (j:Nat) (op var width next els tgt:Int) (l:List Ex) (cs:List Int) (hsz:zF l≤100000)
  (hcs:cs.length≤1000000) (hj:j < sts.length) (hjl:sts.length≤1000000) (hst:sts[j]=⟨op,var,width,next,els,tgt,l,cs⟩)
  (hfin:∀K H nx,Ent 0 K H nx [(2,.ptr 0 0 0 0 0),(3,.ptr 1 0 0 0 0),(6,.ptr 3 0 0 0 0),(16,encL 2 Bl.cells bl),(17,.int .i64 bl.length),(18,.int .i64 i),(26,encL 8 St.cells sts),(27,.int .i64 sts.length),(28,.int .i64 ((j+1:Nat):Int))]
   [(0,.row 2 [[.int .u32 0,.nilsl]] 0),(1,.row 2 [[.int .u32 ad,.own 2 0 0 0 done.length]] 0),(2,.row 2 (done.map Bl.cells) 0),(3,.row 2 [[.int .u32 ad2,.own 4 0 0 0 (j+1)]] 0),(4,.row 8 ((sts.take (j+1)).map St.cells) 0)] 5→Q .normal K H nx)
  {K:Kn} {H:AH} {nx:Nat} (hent:Ent 0 K H nx [(2,.ptr 0 0 0 0 0),(3,.ptr 1 0 0 0 0),(6,.ptr 3 0 0 0 0),(8,.ptr 5 0 0 0 0),(9,.own 6 0 0 0 0),(16,encL 2 Bl.cells bl),(17,.int .i64 bl.length),(18,.int .i64 i),(26,encL 8 St.cells sts),(27,.int .i64 sts.length),(28,.int .i64 j),(33,encL 5 encX l),(34,.int .i64 l.length),(35,.int .i64 0)]
   [(0,.row 2 [[.int .u32 0,.nilsl]] 0),(1,.row 2 [[.int .u32 ad,.own 2 0 0 0 done.length]] 0),(2,.row 2 (done.map Bl.cells) 0),(3,.row 2 [[.int .u32 ad2,.own 4 0 0 0 j]] 0),(4,.row 8 ((sts.take j).map St.cells) 0),(5,.row 8 [[.int .i64 op,.int .i64 var,.int .i64 width,.int .i64 next,.int .i64 els,.int .u32 tgt,encL 5 encX l,za cs]] 0),(6,.row 5 [] 0)] 7) :
  zky Tryz.prog 0 zcB (zby 4 (seqQ Tryz.prog 0 zcD (zby 3 (seqQ Tryz.prog 0 zcR Q)))) K H nx:=by
 have hB:=hBig;have hll:l.length≤zF l:=zkC l
 refine zk (fun m:Nat=>([(2,.ptr 0 0 0 0 0),(3,.ptr 1 0 0 0 0),(6,.ptr 3 0 0 0 0),(8,.ptr 5 0 0 0 0),(9,.own 6 0 0 0 m),(16,encL 2 Bl.cells bl),(17,.int .i64 bl.length),(18,.int .i64 i),(26,encL 8 St.cells sts),(27,.int .i64 sts.length),(28,.int .i64 j),(33,encL 5 encX l),(34,.int .i64 l.length),(35,.int .i64 m)],
   [(0,.row 2 [[.int .u32 0,.nilsl]] 0),(1,.row 2 [[.int .u32 ad,.own 2 0 0 0 done.length]] 0),(2,.row 2 (done.map Bl.cells) 0),(3,.row 2 [[.int .u32 ad2,.own 4 0 0 0 j]] 0),(4,.row 8 ((sts.take j).map St.cells) 0),(5,.row 8 [[.int .i64 op,.int .i64 var,.int .i64 width,.int .i64 next,.int .i64 els,.int .u32 tgt,encL 5 encX l,za cs]] 0),(6,.row 5 ((l.take m).map encX) 0)])) 7
  (fun m=>m≤l.length) (fun m=>l.length - m) 0 (We _) hent ?_
 rintro m hm wf;unfold zcB
 by_cases hil:m < l.length
 ·
  have hmm:=zcK (Wa hil)
  have htk:(l.take (m+1)).map encX=(l.take m).map encX++[encX l[m]]:=by rw[Ws,Wm hil,Wn];rfl
  have htl:((l.take m).map encX).length=m:=by rw[Wf,Wq];omega
  generalize l.take m=T at htk htl ⊢;generalize sts.take j=S at *;have htT:(T.map encX).take m=T.map encX:=Wl (by omega)
  (repeat first|simp(disch:=try exact dis1) only[evD,Nat.reduceBEq,Nat.reduceAdd,Nat.reduceLeDiff,fldP,dT,zq hil,zaI,zai,zb]|with_reducible first|intro _|refine aJ ?_)
  refine ze (zd (znJ (zbq l[m]) l[m] (Wd _) (by omega)) (flX rfl)) ?_
  (repeat first|simp(disch:=try exact dis1) only[evD,Nat.reduceBEq,Nat.reduceAdd,Nat.reduceLeDiff,zaI,zai,zb,htl,htT]|with_reducible first|intro _|refine aJ ?_)
  refine⟨m+1,by omega,by omega,?_⟩;exact(Ent.tab [(0,0,0),(1,1,0),(2,2,0),(3,3,0),(4,4,0),(5,5,0),(6,6,1)] [] rfl (by(try simp only[evWB,Nat.reduceBEq,Nat.reduceAdd,Nat.reduceSub,Nat.reduceLeDiff,Nat.reduceLT,implies_true,htk])<;>exact fin7) (by(try simp only[evWB,Nat.reduceBEq,Nat.reduceAdd,Nat.reduceSub,Nat.reduceLeDiff,Nat.reduceLT,implies_true,htk])<;>exact fin7))
 ·
  obtain rfl:m=l.length:=by omega
  rw[Wt]
  (refine Qg ?_;intros)
  unfold zcD
  (refine Qa ?_;intros)
  refine z6 [] 0 _ (zv1 cs (by omega)) rfl rfl Qaw Qaw ?_;rintro _ _ _ ⟨rfl,rfl,rfl⟩
  have hl8:((sts.take j).map St.cells).length=j:=by rw[Wf,Wq];omega
  have hsj:sts.take (j+1)=sts.take j++[⟨op,var,width,next,els,tgt,l,cs⟩]:=by rw[Ws,Wm hj,hst];rfl
  rw[hsj] at hfin;generalize sts.take j=S at *;have hS8:(S.map St.cells).take j=S.map St.cells:=Wl (by omega)
  (repeat first|simp(disch:=try exact dis1) only[evD,Nat.reduceBEq,Nat.reduceAdd,Nat.reduceLeDiff,renI,hl8,hS8]|with_reducible first|intro _|refine aJ ?_)
  unfold zcR
  (refine Qa ?_;intros)
  refine hfin _ _ _ ?_;exact(Ent.tab [(0,0,0),(1,1,0),(2,2,0),(3,3,0),(4,4,1)] [6,7] rfl Qbo Qbo)
theorem Qbb {p:Prop}(h:p:=by(try simp only[evWB,Nat.reduceBEq,Nat.reduceAdd,Nat.reduceSub,Nat.reduceLeDiff,Nat.reduceLT,implies_true])<;>exact fin7):p:=h
theorem Qbp {p:Prop}(h:p:=by(try simp only[evWB,Nat.reduceBEq,Nat.reduceAdd,Nat.reduceSub,Nat.reduceLeDiff,Nat.reduceLT,implies_true,List.map_append,List.map_cons,List.map_nil,Bl.cells])<;>exact fin7):p:=h
theorem zCW {Q:QT} (ad ad2:Int) (bl:List Bl) (i:Nat) (hi:i < bl.length) (hbl:bl.length≤1000000) (sts:List St) (hb:bl[i]=⟨ad2,sts⟩) (hjl:sts.length≤1000000)
  (hsz:∀s∈sts,zF s.e≤100000∧s.cases.length≤1000000)
  (hfin:∀K H nx,Ent 0 K H nx [(2,.ptr 0 0 0 0 0),(3,.ptr 1 0 0 0 0),(16,encL 2 Bl.cells bl),(17,.int .i64 bl.length),(18,.int .i64 ((i+1:Nat):Int))]
   [(0,.row 2 [[.int .u32 0,.nilsl]] 0),(1,.row 2 [[.int .u32 ad,.own 2 0 0 0 (i+1)]] 0),(2,.row 2 ((bl.take (i+1)).map Bl.cells) 0)] 3→Q .normal K H nx)
  {K:Kn} {H:AH} {nx:Nat} (hent:Ent 0 K H nx [(2,.ptr 0 0 0 0 0),(3,.ptr 1 0 0 0 0),(6,.ptr 3 0 0 0 0),(16,encL 2 Bl.cells bl),(17,.int .i64 bl.length),(18,.int .i64 i),(26,encL 8 St.cells sts),(27,.int .i64 sts.length),(28,.int .i64 0)]
   [(0,.row 2 [[.int .u32 0,.nilsl]] 0),(1,.row 2 [[.int .u32 ad,.own 2 0 0 0 i]] 0),(2,.row 2 ((bl.take i).map Bl.cells) 0),(3,.row 2 [[.int .u32 ad2,.own 4 0 0 0 0]] 0),(4,.row 8 [] 0)] 5) :
  zky Tryz.prog 0 zcH (zby 2 (seqQ Tryz.prog 0 zcI (zby 1 (seqQ Tryz.prog 0 zcS Q)))) K H nx:=by
 have hB:=hBig
 refine zk (fun j:Nat=>([(2,.ptr 0 0 0 0 0),(3,.ptr 1 0 0 0 0),(6,.ptr 3 0 0 0 0),(16,encL 2 Bl.cells bl),(17,.int .i64 bl.length),(18,.int .i64 i),(26,encL 8 St.cells sts),(27,.int .i64 sts.length),(28,.int .i64 j)],
   [(0,.row 2 [[.int .u32 0,.nilsl]] 0),(1,.row 2 [[.int .u32 ad,.own 2 0 0 0 i]] 0),(2,.row 2 ((bl.take i).map Bl.cells) 0),(3,.row 2 [[.int .u32 ad2,.own 4 0 0 0 j]] 0),(4,.row 8 ((sts.take j).map St.cells) 0)])) 5
  (fun j=>j≤sts.length) (fun j=>sts.length - j) 0 (We _) hent ?_
 rintro j hj wf;unfold zcH
 have hdl:(bl.take i).length=i:=by rw[Wq];omega
 by_cases hil:j < sts.length
 ·
  obtain⟨z1,z2⟩:=hsz _ (Wa hil);have hgs:=zq (f:=St.cells) (d:=[]) hil;have hst:sts[j]=⟨sts[j].op,sts[j].var,sts[j].width,sts[j].next,sts[j].els,sts[j].tgt,sts[j].e,sts[j].cases⟩:=rfl
  have hl0:=fun(Q:QT)=>zBV (Q:=Q) ad ad2 bl (bl.take i) i sts j sts[j].op sts[j].var sts[j].width sts[j].next sts[j].els sts[j].tgt sts[j].e sts[j].cases z1 z2 hil hjl hst
  rw[hdl] at hl0;simp only[St.cells] at hgs
  (repeat first|simp(disch:=try exact dis1) only[evD,Nat.reduceBEq,Nat.reduceAdd,Nat.reduceLeDiff,fldP,dT,hgs]|with_reducible first|intro _|refine aJ ?_)
  refine hl0 _ ?_ ?_
  · intro K2 H2 nx2 he;exact⟨j+1,by omega,by show sts.length - (j+1) < sts.length - j;omega,he⟩
  · exact(Ent.tab [(0,0,0),(1,1,0),(2,2,0),(3,3,0),(4,4,0),(5,5,0),(6,6,0)] [] rfl Qbb Qbb)
 ·
  obtain rfl:j=sts.length:=by omega
  rw[Wt]
  have hbk:bl.take (i+1)=bl.take i++[⟨ad2,sts⟩]:=by rw[Ws,Wm hi,hb];rfl
  rw[hbk] at hfin;generalize bl.take i=D at *;have hD:(D.map Bl.cells).take i=D.map Bl.cells:=Wl (by rw[Wf];omega)
  have hDl:(D.map Bl.cells).length=i:=by rw[Wf];omega
  (refine Qg ?_;intros)
  unfold zcI
  (repeat first|simp(disch:=try exact dis1) only[evD,Nat.reduceBEq,Nat.reduceAdd,Nat.reduceLeDiff,hD,hDl]|with_reducible first|intro _|refine aJ ?_)
  unfold zcS
  (refine Qa ?_;intros)
  refine hfin _ _ _ ?_;exact(Ent.tab [(0,0,0),(1,1,0),(2,2,1)] [4] rfl Qbp Qbp)
theorem Qbq {p:Prop}(h:p:=by(try simp only[evWB,Nat.reduceBEq,Nat.reduceAdd,Nat.reduceSub,Nat.reduceLeDiff,Nat.reduceLT,implies_true,List.take_zero,List.map_nil])<;>exact fin2):p:=h
theorem zB9 (g:G) (hbl:g.blocks.length≤1000000) (hst:∀b∈g.blocks,b.stmts.length≤1000000) (hsz:∀b∈g.blocks,∀s∈b.stmts,zF s.e≤100000∧s.cases.length≤1000000) :
  zad Tryz.prog zeJ [.agg g.cells] [] 0 (fun v H nx=>v=.agg [.int .u32 g.addr,.own 0 0 0 0 g.blocks.length]∧H=[(0,.row 2 (g.blocks.map Bl.cells) 0)]∧nx=1):=by
 refine zbc (fn_x zmO rfl ?_);unfold zhs;have hB:=hBig;obtain⟨ad,bl⟩:=g;simp only at hbl hst hsz ⊢
 (repeat first|simp(disch:=try exact dis1) only[evD,Nat.reduceBEq,Nat.reduceAdd,Nat.reduceLeDiff,fldP,G.cells]|with_reducible first|intro _|refine aJ ?_)
 refine zk (fun i:Nat=>([(2,.ptr 0 0 0 0 0),(3,.ptr 1 0 0 0 0),(16,encL 2 Bl.cells bl),(17,.int .i64 bl.length),(18,.int .i64 i)],
   [(0,.row 2 [[.int .u32 0,.nilsl]] 0),(1,.row 2 [[.int .u32 ad,.own 2 0 0 0 i]] 0),(2,.row 2 ((bl.take i).map Bl.cells) 0)])) 3
  (fun i=>i≤bl.length) (fun i=>bl.length - i) 0 (We _) (Ent.tab [(0,0,0),(1,1,0)] [] rfl Qbq Qbq) ?_
 rintro i hi wf;unfold zeX
 by_cases hil:i < bl.length
 ·
  have hm:=Wa hil;have hgl:=zq (f:=Bl.cells) (d:=[]) hil
  have hl3:=fun(Q:QT)=>zCW (Q:=Q) ad bl[i].addr bl i hil hbl bl[i].stmts rfl (hst _ hm) (hsz _ hm)
  simp only[Bl.cells] at hgl
  (repeat first|simp(disch:=try exact dis1) only[evD,Nat.reduceBEq,Nat.reduceAdd,Nat.reduceLeDiff,fldP,dT,hgl]|with_reducible first|intro _|refine aJ ?_)
  refine hl3 _ ?_ ?_
  · intro K2 H2 nx2 he;exact⟨i+1,by omega,by show bl.length - (i+1) < bl.length - i;omega,he⟩
  · exact(Ent.tab [(0,0,0),(1,1,0),(2,2,0),(3,4,0)] [] rfl Qbb Qbb)
 ·
  obtain rfl:i=bl.length:=by omega
  rw[Wt]
  (refine Qg ?_;intros)
  unfold ze5
  (repeat first|simp(disch:=try exact dis1) only[evD,Nat.reduceBEq,Nat.reduceAdd,Nat.reduceLeDiff,zg3]|with_reducible first|intro _|refine aJ ?_)
  exact⟨.agg [.int .u32 ad,.own 0 0 0 0 bl.length],[(0,.row 2 (bl.map Bl.cells) 0)],1,(Ent.tab [(0,2,0)] [] rfl Qbb Qbb),rfl,rfl,rfl⟩
def zgS (exit:List Int):List St→List Int→List St × List Int
 | [],a=>([],a)
 | s::l,a=>if remS s (zgS exit l a).2=true then zgS exit l a else (s::(zgS exit l a).1,zcl exit s (zgS exit l a).2)
def keepM (exit:List Int):List St→MS→List St × MS
 | [],a=>([],a)
 | s::l,a=>if remS s (keepM exit l a).2.keys=true then keepM exit l a else (s::(keepM exit l a).1,zep exit s (keepM exit l a).2)
theorem zz3 {s:St} {a b:List Int} (h:∀x,x∈a↔x∈b):remS s a=remS s b:=by unfold remS;rw[decide_eq_decide.2 (h s.var)]
theorem zv8 {exit:List Int} {a:MS} {e:List Int} (h:∀x,x∈a.keys↔x∈e):∀l:List St,(keepM exit l a).1=(zgS exit l e).1∧∀x,x∈(keepM exit l a).2.keys↔x∈(zgS exit l e).2
 | []=>⟨rfl,h⟩
 |
  s::l=>by
  obtain⟨h1,h2⟩:=zv8 h l;unfold keepM zgS;rw[zz3 h2];split
  · exact⟨h1,h2⟩
  · exact⟨by rw[h1],zq1 h2⟩
theorem zkx {exit:List Int} {e:List Int}:∀l:List St,((zgS exit l e).1).Sublist l
 | []=>List.Sublist.slnil
 |
  s::l=>by
  unfold zgS;split
  · exact(zkx l).cons s
  · exact(zkx l).cons_cons s
theorem zqk {exit:List Int} {e:MS}:∀l:List St,((keepM exit l e).1).Sublist l
 | []=>List.Sublist.slnil
 |
  s::l=>by
  unfold keepM;split
  · exact(zqk l).cons s
  · exact(zqk l).cons_cons s
theorem zyi {exit:List Int}:∀ {l:List St} {a:MS},a.ok→a.1+zbm exit.length l≤1000000→a.2.length+zbm exit.length l≤1000000 →
  (keepM exit l a).2.ok∧(keepM exit l a).2.1≤a.1+zbm exit.length l∧(keepM exit l a).2.2.length≤a.2.length+zbm exit.length l
 | [],a,h,_,_=>⟨h,by show a.1≤a.1+(0:Nat);omega,Wd _⟩
 |
  s::l,a,h,h1,h2=>by
  have e:zbm exit.length (s::l)=zF s.e+exit.length+zbm exit.length l:=rfl;rw[e] at h1 h2 ⊢;obtain⟨i1,i2,i3⟩:=zyi (exit:=exit) (l:=l) h (by omega) (by omega);unfold keepM;split
  · exact⟨i1,by omega,by omega⟩
  · obtain⟨j1,j2,j3⟩:=zyL (exit:=exit) (s:=s) i1 (by omega) (by omega);exact⟨j1,by simp only;omega,by simp only;omega⟩
def blkD (exit:List Int) (bl:List Bl) (i:Nat) (b:Bl):Bl:=⟨b.addr,(zgS exit b.stmts (zaa exit bl i)).1⟩
def zcE (exit:List Int) (bl:List Bl):List Bl:=bl.mapIdx (blkD exit bl)
theorem zf1 {exit:List Int} {bl:List Bl}:(zcE exit bl).length=bl.length:=by simp[zcE]
theorem znP {exit:List Int} {bl:List Bl} {i:Nat} (h:i < bl.length):(zcE exit bl)[i]'(by rw[zf1];exact h)=blkD exit bl i bl[i]:=by simp[zcE]
def SubB (a b:List Bl):Prop:=a.length=b.length∧∀i (h1:i < a.length) (h2:i < b.length),a[i].addr=b[i].addr∧(a[i].stmts).Sublist b[i].stmts
theorem SubB.rfl' {a:List Bl}:SubB a a:=⟨rfl,fun _ _ _=>⟨rfl,List.Sublist.refl _⟩⟩
theorem SubB.trans {a b c:List Bl} (h:SubB a b) (k:SubB b c):SubB a c:=⟨h.1.trans k.1,fun i h1 h2=>by
 obtain⟨x1,x2⟩:=h.2 i h1 (by have:=h.1;omega);obtain⟨y1,y2⟩:=k.2 i (by have:=h.1;omega) h2
 exact⟨x1.trans y1,x2.trans y2⟩⟩
theorem zdV {exit:List Int} {bl:List Bl}:SubB (zcE exit bl) bl:=⟨zf1,fun i h1 h2=>by rw[znP h2];exact⟨rfl,zkx _⟩⟩
theorem SubB.mem {a b:List Bl} (h:SubB a b) {x:Bl} (hx:x∈a):∃y∈b,x.addr=y.addr∧(x.stmts).Sublist y.stmts:=by obtain⟨i,hi,rfl⟩:=Wz.1 hx;have hl:=h.1;obtain⟨h1,h2⟩:=h.2 i hi (by omega);exact⟨_,Wa _,h1,h2⟩
theorem SubB.count:∀ {a b:List Bl},SubB a b→zJ a≤zJ b
 | [],[],_=>Wd _
 | [],y::b,h=>by have:=h.1;simp at this
 | x::a,[],h=>by have:=h.1;simp at this
 |
  x::a,y::b,h=>by
  have h1:=(h.2 0 (by simp) (by simp)).2.length_le;have h2:SubB a b:=⟨by have:=h.1;simpa using this,fun i h1 h2=>h.2 (i+1) (by simpa using h1) (by simpa using h2)⟩;have h3:=SubB.count h2;simp only[WA] at h1;simp only[zJ,Wg,Wr] at h3 ⊢;omega
theorem SubB.same:∀ {a b:List Bl},SubB a b→zJ a=zJ b→a=b
 | [],[],_,_=>rfl
 | [],y::b,h,_=>by have:=h.1;simp at this
 | x::a,[],h,_=>by have:=h.1;simp at this
 |
  x::a,y::b,h,hc=>by
  obtain⟨ha,hs⟩:=h.2 0 (by simp) (by simp);have h2:SubB a b:=⟨by have:=h.1;simpa using this,fun i h1 h2=>h.2 (i+1) (by simpa using h1) (by simpa using h2)⟩;have h3:=h2.count;simp only[WA] at ha hs;have hl:=hs.length_le;simp only[zJ,Wg,Wr] at hc h3;have e1:x.stmts=y.stmts:=hs.eq_of_length (by omega);rw[SubB.same h2 (by simp only[zJ];omega)]
  congr 1
  obtain⟨a1,s1⟩:=x;obtain⟨a2,s2⟩:=y;simp only at ha e1;rw[ha,e1]
theorem zvw {k:Nat} {a b:List St} (h:a.Sublist b):zbm k a≤zbm k b:=by
 induction h with
 | slnil=>exact Wd _
 | cons s _ ih=>show _≤zF s.e+k+_;omega
 | cons_cons s _ ih=>show zF s.e+k+_≤zF s.e+k+_;omega
structure GoodB (U exit:List Int) (bl:List Bl):Prop where
 he:∀x∈exit,x∈U
 hu:∀b∈bl,∀s∈b.stmts,∀x∈zfm s,x∈U
 hsz:∀b∈bl,∀s∈b.stmts,zF s.e≤100000∧s.cases.length≤100000
 cost:∀b∈bl,2 * U.length+zbm exit.length b.stmts≤1000000
 cnt:zJ bl≤1000000
 len:bl.length≤1000000
theorem zuA {s:St}:(zam s).length≤s.cases.length+2:=by
 unfold zam;split
 · simp
 ·
  split
  · simp
  ·
   split
   · omega
   · simp
theorem zpo {l:List St} {n:Nat} (h:∀s∈l,s.cases.length≤n):(zG l).length≤n+2:=by
 unfold zG;split
 · simp
 · rename_i s hs;have:=h s (List.mem_of_getLast? hs);have:=zuA (s:=s);omega
theorem zkH {bl:List Bl} {b:Bl} (h:b∈bl):b.stmts.length≤zJ bl:=by
 induction bl with
 | nil=>cases h
 |
  cons x l ih =>
  simp only[zJ,Wg,Wr] at ih ⊢
  rcases List.mem_cons.1 h with rfl|h
  · omega
  · have:=ih h;omega
theorem GoodB.univ {U exit:List Int} {bl:List Bl} (h:GoodB U exit bl):UnivB U exit bl:=by
 refine⟨h.he,h.hu,fun b hb s hs=>(h.hsz b hb s hs).1,h.cost,fun b hb=>⟨fun s hs=>?_,?_,?_⟩,h.len⟩
 · have:=(h.hsz b hb s hs).2;omega
 · exact Wu (zkH hb) h.cnt
 ·
  have:=zpo (l:=b.stmts) (n:=100000) fun s hs=>(h.hsz b hb s hs).2
  omega
theorem GoodB.sub {U exit:List Int} {a b:List Bl} (h:GoodB U exit b) (k:SubB a b):GoodB U exit a:=by
 refine⟨h.he,fun x hx s hs=>?_,fun x hx s hs=>?_,fun x hx=>?_,Wu k.count h.cnt,by rw[k.1];exact h.len⟩
 · obtain⟨y,hy,_,h2⟩:=k.mem hx;exact h.hu y hy s (h2.mem hs)
 · obtain⟨y,hy,_,h2⟩:=k.mem hx;exact h.hsz y hy s (h2.mem hs)
 · obtain⟨y,hy,_,h2⟩:=k.mem hx;have:=zvw (k:=exit.length) h2;have:=h.cost y hy;omega
def zrd (exit:List Int):Nat→List Bl→List Bl
 | 0,bl=>bl
 | k+1,bl=>if zJ (zcE exit bl)=zJ bl then bl else zrd exit k (zcE exit bl)
theorem zvH {exit:List Int}:∀(k:Nat) (bl:List Bl),SubB (zrd exit k bl) bl
 | 0,bl=>SubB.rfl'
 |
  k+1,bl=>by
  unfold zrd;split
  · exact SubB.rfl'
  · exact(zvH k _).trans zdV
theorem zr8 {exit:List Int}:∀(k k':Nat) (bl:List Bl),zJ bl < k→zJ bl < k'→zrd exit k bl=zrd exit k' bl
 | 0,_,bl,h,_=>absurd h (Nat.not_lt_zero _)
 | _+1,0,bl,_,h=>absurd h (Nat.not_lt_zero _)
 |
  k+1,k'+1,bl,h,h'=>by
  unfold zrd;split
  · rfl
  · have:=(zdV (exit:=exit) (bl:=bl)).count;exact zr8 k k' _ (by omega) (by omega)
def znV (exit:List Int) (bl:List Bl):List Bl:=zrd exit (zJ bl+1) bl
abbrev LeL (a b:List Int):Prop:=∀x∈a,x∈b
theorem LeL.trans {a b c:List Int} (h:LeL a b) (k:LeL b c):LeL a c:=fun x hx=>k x (h x hx)
theorem zkg {exit:List Int} {s:St} {a b:List Int} (h:LeL a b):LeL (zcl exit s a) (zcl exit s b):=fun x hx=>by
 rw[zdw] at hx ⊢
 rcases hx with ⟨h1,h2⟩|h1
 · exact .inl ⟨h x h1,h2⟩
 · exact .inr h1
theorem zga {exit:List Int}:∀ {l:List St} {a b:List Int},LeL a b→LeL (zbJ exit l a) (zbJ exit l b)
 | [],_,_,h=>h
 |
  s::l,a,b,h=>by
  show LeL (zcl exit s (zbJ exit l a)) (zcl exit s (zbJ exit l b));exact zkg (zga h)
theorem zxp {exit:List Int} {s:St} {l:List St} {a:List Int}:zbJ exit (s::l) a=zcl exit s (zbJ exit l a):=rfl
theorem zvN {s:St} {a b:List Int} (h:LeL a b) (hr:remS s b=true):remS s a=true:=by unfold remS at hr ⊢;simp only[Wc,WI,decide_eq_true_eq,decide_eq_false_iff_not] at hr ⊢;exact⟨hr.1,fun hm=>hr.2.1 (h _ hm),hr.2.2⟩
theorem zqR {s:St} {a:List Int} (h:remS s a=true):s.op=1∧s.var∉a:=by unfold remS at h;simp only[Wc,WI,decide_eq_true_eq,decide_eq_false_iff_not] at h;exact⟨h.1,h.2.1⟩
theorem zsK {exit:List Int} {s:St} {a b:List Int} (h:LeL a b) (hr:s.op=1) (hn:s.var∉a):LeL a (zcl exit s b):=fun x hx=>by rw[zdw];refine .inl ⟨h x hx,fun hd=>?_⟩;unfold zk8 at hd;rw[if_pos (.inl hr),List.mem_singleton] at hd;exact hn (hd▸hx)
inductive SubD (exit e:List Int):List St→List St→Prop
 | nil:SubD exit e [] []
 | keep {s:St} {x y:List St}:SubD exit e x y→SubD exit e (s::x) (s::y)
 | drop {s:St} {x y:List St}:SubD exit e x y→remS s (zbJ exit x e)=true→SubD exit e x (s::y)
theorem SubD.refl {exit e:List Int}:∀ {l:List St},SubD exit e l l
 | []=>.nil
 | _::_=>.keep SubD.refl
theorem SubD.sub {exit e:List Int} {x y:List St} (h:SubD exit e x y):x.Sublist y:=by
 induction h with
 | nil=>exact List.Sublist.slnil
 | keep _ ih=>exact ih.cons_cons _
 | drop _ _ ih=>exact ih.cons _
theorem SubD.begin {exit e e1 e2:List Int} {x y:List St} (h:SubD exit e x y) (h1:LeL e1 e) (h2:LeL e1 e2):LeL (zbJ exit x e1) (zbJ exit y e2):=by
 induction h with
 | nil=>exact h2
 | keep _ ih=>exact zkg ih
 |
  @drop s x y _ hr ih =>
  obtain⟨r1,r2⟩:=zqR hr
  exact zsK ih r1 fun hm=>r2 (zga h1 _ hm)
theorem SubD.trans {exit e e2:List Int} {x y z:List St} (h:SubD exit e x y) (k:SubD exit e2 y z) (he:LeL e e2):SubD exit e x z:=by
 induction k generalizing x with
 | nil=>exact h
 |
  keep _ ih =>
  cases h with
  | keep h=>exact .keep (ih h)
  | drop h hr=>exact .drop (ih h) hr
 | drop hk hr ih=>exact .drop (ih h) (zvN (h.begin (fun _ h=>h) he) hr)
theorem SubD.last {exit e:List Int} {x y:List St} (h:SubD exit e x y) (hy:∀s,y.getLast? = some s→s.op≠1):x.getLast? = y.getLast? := by
 induction h with
 | nil=>rfl
 |
  @keep s x y h ih =>
  cases h with
  | nil=>rfl
  |
   @keep s2 x y h =>
   have:=ih (fun t ht=>hy t (by rw[Wh];exact ht));rw[Wh,Wh];exact this
  |
   @drop s2 x y h hr =>
   have:=ih (fun t ht=>hy t (by rw[Wh];exact ht));rw[Wh,←this]
   cases x with
   |
    nil =>
    rw[WJ] at this;exact absurd (WK.1 this.symm) (by simp)
   | cons t x=>rw[Wh]
 |
  @drop s x y h hr ih =>
  cases y with
  | nil=>exact absurd (zqR hr).1 (hy s rfl)
  | cons t y=>rw[Wh];exact ih (fun u hu=>hy u (by rw[Wh];exact hu))
theorem zkX {exit e:List Int}:∀ {l:List St},(zgS exit l e).2=zbJ exit (zgS exit l e).1 e
 | []=>rfl
 |
  s::l=>by
  unfold zgS;split
  · exact zkX
  · simp only;rw[zxp,zkX (l:=l)]
theorem ztW {exit e:List Int}:∀ {l:List St},LeL (zgS exit l e).2 (zbJ exit l e)
 | []=>fun _ h=>h
 |
  s::l=>by
  unfold zgS;split
  · rename_i hr;obtain⟨r1,r2⟩:=zqR hr;exact zsK ztW r1 r2
  · exact zkg ztW
theorem znM {exit e ee:List Int} (he:LeL ee e):∀ {l:List St},SubD exit ee (zgS exit l e).1 l
 | []=>.nil
 |
  s::l=>by
  unfold zgS;split
  · rename_i hr;rw[zkX] at hr;exact .drop (znM he) (zvN (zga he) hr)
  · exact .keep (znM he)
def zB0 (exit e:List Int):List St→List St
 | []=>[]
 | s::l=>if remS s (zbJ exit l e)=true then zB0 exit e l else s::zB0 exit e l
theorem zon {exit:List Int} {g:List Bl} {I:List (List Int)} (hl:I.length=g.length) (hI:∀i,i < g.length→LeL (newB exit g I i) (I.getD i [])):∀i,LeL ((za2 exit g).getD i []) (I.getD i []):=by
 have hstep:∀(n:Nat) (ins:List (List Int)),LInvU exit g ins→n≤g.length→(∀i,LeL (ins.getD i []) (I.getD i []))→∀i,LeL ((zjv exit g n ins).getD i []) (I.getD i []):=by
  intro n
  induction n with
  | zero=>intro ins _ _ h;exact h
  |
   succ n ih =>
   intro ins hv hn h
   refine ih _ (hv.step (by omega)) (by omega) fun i=>?_
   unfold zfc;split
   · exact h i
   ·
    rw[zit (by rw[hv.len];omega)];split
    · rename_i hi;subst hi;exact LeL.trans (zqv (by rw[hv.len,hl]) h _) (hI _ (by omega))
    · exact h i
 have hfix:∀(k:Nat) (ins:List (List Int)),LInvU exit g ins→(∀i,LeL (ins.getD i []) (I.getD i []))→∀i,LeL ((fixL exit g k ins).getD i []) (I.getD i []):=by
  intro k
  induction k with
  | zero=>intro ins _ h;exact h
  |
   succ k ih =>
   intro ins hv h;rw[fixL];split
   · exact h
   · exact ih _ (hv.pass (Wd _)).1 (hstep _ _ hv (Wd _) h)
 refine hfix _ _ (zq5 exit g) fun i x hx=>?_
 have e:(g.map fun _=>([]:List Int)).getD i []=[]:=by
  rw[Wb,WL]
  cases g[i]? <;> rfl
 rw[e] at hx;cases hx
def znb (g:List Bl):Prop:=∀b∈g,b.stmts≠[]∧∀s,b.stmts.getLast? = some s→s.op≠1
structure RelD (exit:List Int) (x y:List Bl):Prop where
 len:x.length=y.length
 blk:∀i (h1:i < x.length) (h2:i < y.length),x[i].addr=y[i].addr∧SubD exit (zaa exit x i) x[i].stmts y[i].stmts
theorem zsn {g:List Bl} {i:Nat} (h:i < g.length):(g.map (·.stmts)).getD i []=g[i].stmts:=zq h
theorem ztR {exit:List Int} {g:List Bl} {ins:List (List Int)} {i:Nat} (h:i < g.length):newB exit g ins i=zgB exit g[i].stmts (endB ins g[i].stmts):=by unfold newB;rw[zsn h]
theorem zcd {exit:List Int} {g:List Bl} {i:Nat} (h:i < g.length):zaa exit g i=endB (za2 exit g) g[i].stmts:=by unfold zaa;rw[zsn h]
theorem zqX {a b:List (List Int)} {l m:List St} (hl:a.length=b.length) (h:∀i,LeL (a.getD i []) (b.getD i [])) (he:l.getLast? = m.getLast?):LeL (endB a l) (endB b m):=fun x hx=>by obtain⟨t,h1,h2,h3⟩:=zd2.1 hx;refine zd2.2 ⟨t,?_,⟨h2.1,by omega⟩,h _ x h3⟩;unfold zG at h1 ⊢;rw[←he];exact h1
theorem zdO {exit:List Int} {g:List Bl}:(za2 exit g).length=g.length:=(zkE exit g).1.len
theorem zf2 {exit e:List Int} {l:List St} (h:l≠[]):zgB exit l e=zbJ exit l e:=by unfold zgB;rw[if_neg (by cases l with|nil=>exact absurd rfl h|cons a l=>simp)]
theorem zkL {exit:List Int} {g:List Bl} {i:Nat} (h:i < g.length):(za2 exit g).getD i []=zgB exit g[i].stmts (zaa exit g i):=by rw[←(zkE exit g).2 i h,ztR h,zcd h]
theorem zEC {g:List (List Int)} {i:Nat} (h:g.length≤i):g.getD i []=[]:=by rw[Wb,List.getElem?_eq_none h];rfl
theorem SubD.ne {exit e:List Int} {x y:List St} (h:SubD exit e x y) (hy:y≠[]∧∀s,y.getLast? = some s→s.op≠1):x≠[]:=by have:=h.last hy.2;rintro rfl;rw[WJ] at this;exact hy.1 (WK.1 this.symm)
theorem RelD.ends {exit:List Int} {x y:List Bl} (h:RelD exit x y) (hy:znb y):znb x:=by
 intro b hb;obtain⟨i,hi,rfl⟩:=Wz.1 hb
 have hiy:i < y.length:=by have:=h.len;omega
 obtain⟨_,h2⟩:=h.blk i hi hiy;have hm:=hy _ (Wa hiy);exact⟨h2.ne hm,by rw[h2.last hm.2];exact hm.2⟩
theorem RelD.live {exit:List Int} {x y:List Bl} (h:RelD exit x y) (hy:znb y):∀i,LeL ((za2 exit x).getD i []) ((za2 exit y).getD i []):=by
 have hlx:=zdO (exit:=exit) (g:=x);have hly:=zdO (exit:=exit) (g:=y);have hl:=h.len
 let I:List (List Int):=(List.range x.length).map fun i=>((za2 exit x).getD i []).filter fun v=>decide (v∈(za2 exit y).getD i [])
 have hIl:I.length=x.length:=by simp[I]
 have hIg:∀i v,v∈I.getD i []→v∈(za2 exit x).getD i []∧v∈(za2 exit y).getD i []:=fun i v hv=>by
  by_cases hi:i < x.length
  ·
   have e:I.getD i []=((za2 exit x).getD i []).filter fun v=>decide (v∈(za2 exit y).getD i []):=by simp[I,Wb,hi]
   rw[e,List.mem_filter] at hv;exact⟨hv.1,of_decide_eq_true hv.2⟩
  · rw[zEC (by omega)] at hv;cases hv
 have hII:∀i v,i < x.length→v∈(za2 exit x).getD i []→v∈(za2 exit y).getD i []→v∈I.getD i []:=fun i v hi h1 h2=>by
  have e:I.getD i []=((za2 exit x).getD i []).filter fun v=>decide (v∈(za2 exit y).getD i []):=by simp[I,Wb,hi]
  rw[e,List.mem_filter];exact⟨h1,decide_eq_true h2⟩
 have hmain:=zon (exit:=exit) (g:=x) (I:=I) hIl fun i hi v hv=>by
  have hiy:i < y.length:=by omega
  obtain⟨_,hs⟩:=h.blk i hi hiy;have hm:=hy _ (Wa hiy);have hlast:=hs.last hm.2
  have hex:LeL (endB I x[i].stmts) (zaa exit x i):=by rw[zcd hi];exact zqX (by omega) (fun j v hv=>(hIg j v hv).1) rfl
  have hey:LeL (endB I x[i].stmts) (zaa exit y i):=by rw[zcd hiy];exact zqX (by omega) (fun j v hv=>(hIg j v hv).2) hlast
  rw[ztR hi,zf2 (hs.ne hm)] at hv;refine hII i v hi ?_ ?_
  · rw[zkL hi,zf2 (hs.ne hm)];exact zga hex v hv
  · rw[zkL hiy,zf2 hm.1];exact hs.begin hex hey v hv
 exact fun i v hv=>(hIg i v (hmain i v hv)).2
theorem RelD.out {exit:List Int} {x y:List Bl} (h:RelD exit x y) (hy:znb y) {i:Nat} (hi:i < x.length):LeL (zaa exit x i) (zaa exit y i):=by
 have hiy:i < y.length:=by have:=h.len;omega
 obtain⟨_,hs⟩:=h.blk i hi hiy;rw[zcd hi,zcd hiy];exact zqX (by rw[zdO,zdO];exact h.len) (h.live hy) (hs.last (hy _ (Wa hiy)).2)
theorem RelD.refl {exit:List Int} {x:List Bl}:RelD exit x x:=⟨rfl,fun _ _ _=>⟨rfl,SubD.refl⟩⟩
theorem RelD.trans {exit:List Int} {x y z:List Bl} (h:RelD exit x y) (k:RelD exit y z) (hz:znb z):RelD exit x z:=by
 refine⟨h.len.trans k.len,fun i h1 h2=>?_⟩
 have hy:i < y.length:=by have:=h.len;omega
 obtain⟨a1,a2⟩:=h.blk i h1 hy;obtain⟨b1,b2⟩:=k.blk i hy h2;exact⟨a1.trans b1,a2.trans b2 (h.out (k.ends hz) h1)⟩
theorem RelD.subB {exit:List Int} {x y:List Bl} (h:RelD exit x y):SubB x y:=⟨h.len,fun i h1 h2=>⟨(h.blk i h1 h2).1,(h.blk i h1 h2).2.sub⟩⟩
theorem zAN {exit:List Int} {y z:List Bl} (hy:znb y) (hl:z.length=y.length)
  (hb:∀i (h1:i < z.length) (h2:i < y.length),z[i].stmts.getLast? = y[i].stmts.getLast? ∧ z[i].stmts≠[]∧LeL (zbJ exit z[i].stmts (zaa exit y i)) (zbJ exit y[i].stmts (zaa exit y i))) {i:Nat} (hi:i < z.length):LeL (zaa exit z i) (zaa exit y i):=by
 have hm:=zon (exit:=exit) (g:=z) (I:=za2 exit y) (by rw[zdO];omega) fun j hj v hv=>by
  have hjy:j < y.length:=by omega
  obtain⟨b1,b2,b3⟩:=hb j hj hjy;rw[ztR hj,zf2 b2] at hv;rw[zkL hjy,zf2 (hy _ (Wa hjy)).1];refine b3 v (zga ?_ v hv);rw[zcd hjy];exact zqX rfl (fun _ _ h=>h) b1
 rw[zcd hi,zcd (show i < y.length by omega)];exact zqX (by rw[zdO,zdO];exact hl) hm (hb i hi (by omega)).1
theorem zsN {exit:List Int} {y:List Bl} (hy:znb y):RelD exit (zcE exit y) y:=by
 have hs:∀i (h2:i < y.length) (ee:List Int),LeL ee (zaa exit y i)→SubD exit ee (blkD exit y i y[i]).stmts y[i].stmts:=fun i h2 ee he=>znM he
 refine⟨zf1,fun i h1 h2=>?_⟩;rw[znP h2];refine⟨rfl,hs i h2 _ (zAN hy zf1 (fun j k1 k2=>?_) h1)⟩;rw[znP k2];have hm:=hy _ (Wa k2);have h3:=hs j k2 _ (fun _ h=>h);refine⟨h3.last hm.2,h3.ne hm,?_⟩;show LeL (zbJ exit (zgS exit y[j].stmts (zaa exit y j)).1 _) _;rw[←zkX];exact ztW
def zCC (exit:List Int) (bl:List Bl):List Bl:=bl.mapIdx fun i b=>⟨b.addr,zB0 exit (zaa exit bl i) b.stmts⟩
theorem zuN {exit:List Int}:∀(k:Nat) {y:List Bl},znb y→RelD exit (zrd exit k y) y
 | 0,_,_=>RelD.refl
 |
  k+1,y,hy=>by
  unfold zrd;split
  · exact RelD.refl
  · exact(zuN k ((zsN hy).ends hy)).trans (zsN hy) hy
def deadR (exit:List Int):Nat→List Bl→List Bl
 | 0,bl=>bl
 | k+1,bl=>if zJ (zCC exit bl)=zJ bl then zCC exit bl else deadR exit k (zCC exit bl)
theorem SubD.endsOk {exit e:List Int} {x y:List St} (h:SubD exit e x y) (hy:endsOk y=true):endsOk x=true∧(y≠[]→x≠[]):=by
 induction h with
 | nil=>exact⟨rfl,fun h=>h⟩
 |
  @keep s x y h ih =>
  rw[Go.Ab.endsOk,Wc,beq_iff_eq] at hy;obtain⟨i1,i2⟩:=ih hy.2;refine⟨?_,fun _=>by simp⟩;rw[Go.Ab.endsOk,i1,Bool.and_true,beq_iff_eq,hy.1]
  cases y with
  | nil=>cases h;rfl
  |
   cons t y =>
   cases x with
   | nil=>exact absurd rfl (i2 (by simp))
   | cons u x=>rfl
 |
  @drop s x y h hr ih =>
  rw[Go.Ab.endsOk,Wc,beq_iff_eq] at hy;obtain⟨i1,i2⟩:=ih hy.2;refine⟨i1,fun _=>?_⟩
  have he:zcm s=false:=by unfold zcm;rw[(zqR hr).1];rfl
  rw[he] at hy;refine i2 ?_;rintro rfl;cases hy.1
theorem zlY:∀ {l:List St},endsOk l=true→∀s,l.getLast? = some s→s.op≠1
 | [],_,s,h=>by cases h
 |
  [x],h,s,hs=>by
  simp only[List.getLast?_singleton,Option.some.injEq] at hs;subst hs;rw[endsOk,Wc,beq_iff_eq] at h;have:=h.1;intro h1;unfold zcm at this;rw[h1] at this;cases this
 |
  x::y::l,h,s,hs=>by
  rw[endsOk,Wc] at h;rw[Wh] at hs;exact zlY h.2 s hs
theorem zlS:∀ {l:List St},zeu l=0↔∀s∈l,s.check=0
 | []=>by simp[zeu]
 |
  s::l=>by
  rw[zeu];split
  ·
   rename_i h;constructor
   · intro h2;exact absurd h2 h
   · intro h2;exact absurd (h2 s (by simp)) h
  · rename_i h;rw[zlS];have h:s.check=0:=Classical.not_not.1 h;simp[h]
theorem zl7:∀ {l:List Bl},zho l=0↔∀b∈l,∀s∈b.stmts,s.check=0
 | []=>by simp[zho]
 |
  b::l=>by
  rw[zho];split
  ·
   rename_i h;constructor
   · intro h2;exact absurd h2 h
   · intro h2;exact absurd (zlS.2 (h2 b (by simp))) h
  ·
   rename_i h;rw[zl7];have h:zeu b.stmts=0:=Classical.not_not.1 h;rw[zlS] at h;constructor
   ·
    intro h2 c hc
    rcases List.mem_cons.1 hc with rfl|hc
    · exact h
    · exact h2 c hc
   · exact fun h2 c hc=>h2 c (List.mem_cons_of_mem _ hc)
structure OkG (g:G):Prop where
 len:g.blocks.length≤256
 cnt:zJ g.blocks≤1024
 ne:g.blocks≠[]
 closed:∀b∈g.blocks,b.stmts≠[]∧endsOk b.stmts=true∧∀t∈zG b.stmts,0≤t∧t < g.blocks.length
 chk:∀b∈g.blocks,∀s∈b.stmts,s.check=0
theorem zwp {g:G}:zfs g=0↔OkG g:=by
 unfold zfs zx9;constructor
 ·
  intro h;split at h
  · cases h
  ·
   rename_i h1;split at h
   ·
    rename_i h2;rw[Wc,Wv] at h2;refine⟨by omega,by omega,?_,fun b hb=>?_,zl7.1 h⟩
    · rintro h3;rw[h3] at h2;cases h2.1
    · have:=h2.2 b hb;unfold zdx at this;rw[Wc,Wc,Wv] at this;refine⟨?_,this.2.1,fun t ht=>of_decide_eq_true (this.2.2 t ht)⟩;rintro h3;rw[h3] at this;cases this.1
   · cases h
 ·
  rintro⟨h1,h2,h3,h4,h5⟩;rw[if_neg (by omega),if_pos,zl7.2 h5];rw[Wc,Wv];refine⟨?_,fun b hb=>?_⟩
  ·
   cases hg:g.blocks with
   | nil=>exact absurd hg h3
   | cons a l=>rfl
  ·
   obtain⟨k1,k2,k3⟩:=h4 b hb;unfold zdx;rw[Wc,Wc,Wv];refine⟨?_,k2,fun t ht=>decide_eq_true (k3 t ht)⟩
   cases hg:b.stmts with
   | nil=>exact absurd hg k1
   | cons a l=>rfl
theorem OkG.ends {g:G} (h:OkG g):znb g.blocks:=fun b hb=>⟨(h.closed b hb).1,zlY (h.closed b hb).2.1⟩
theorem OkG.rel {exit:List Int} {g:G} (h:OkG g) {x:List Bl} (k:RelD exit x g.blocks):OkG ⟨g.addr,x⟩:=by
 have hs:=k.subB;refine⟨by have:=k.len;have:=h.len;simp only;omega,Wu hs.count h.cnt,?_,fun b hb=>?_,fun b hb s hm=>?_⟩
 · have:=k.len;intro h2;simp only at h2;rw[h2] at this;exact h.ne (Wx this.symm)
 ·
  obtain⟨i,hi,rfl⟩:=Wz.1 hb;simp only at hi ⊢
  have hig:i < g.blocks.length:=by have:=k.len;omega
  obtain⟨c1,c2,c3⟩:=h.closed _ (Wa hig);obtain⟨_,h2⟩:=k.blk i hi hig;obtain⟨e1,e2⟩:=h2.endsOk c2;refine⟨e2 c1,e1,?_⟩;have hl:=h2.last (zlY c2)
  have:zG x[i].stmts=zG g.blocks[i].stmts:=by unfold zG;rw[hl]
  rw[this,k.len];exact c3
 · obtain⟨y,hy,_,h2⟩:=hs.mem hb;exact h.chk y hy s (h2.mem hm)
def st0:St:=⟨0,0,0,0,0,0,[],[]⟩
def revP (l:List St) (i x:Nat):St:=if x < i∨l.length - i≤x then l.getD (l.length - 1 - x) st0 else l.getD x st0
def revL (l:List St) (i:Nat):List St:=(List.range l.length).map (revP l i)
theorem zDL {l:List St} {i:Nat}:(revL l i).length=l.length:=by simp[revL]
theorem zu2 {l:List St}:revL l 0=l:=by
 apply WM;intro x;unfold revL revP
 by_cases hx:x < l.length
 ·
  have:¬l.length≤x:=by omega
  simp[hx,Wb,this]
 · simp[hx]
theorem zEz {l:List St} {i:Nat} (h:l.length≤2 * i+1):revL l i=l.reverse:=by
 apply WM;intro x;unfold revL revP
 by_cases hx:x < l.length
 ·
  rw[List.getElem?_reverse hx];simp only[WL,List.getElem?_range hx,Option.map_some]
  by_cases hc:x < i∨l.length - i≤x
  · rw[if_pos hc];rw[Wb,Wm (show l.length - 1 - x < l.length by omega)];rfl
  · rw[if_neg hc,show l.length - 1 - x=x by omega,Wb,Wm hx];rfl
 · simp[hx]
theorem zyr {l:List St} {i x:Nat} (hx:x < l.length):((revL l i).map St.cells).getD x []=(revP l i x).cells:=by simp[revL,Wb,hx]
theorem zCA {l:List St} {i:Nat} (h:2 * i+1 < l.length) :
  (((revL l i).map St.cells).set i (revP l i (l.length - 1 - i)).cells).set (l.length - 1 - i) (revP l i i).cells=(revL l (i+1)).map St.cells:=by
 unfold revL;rw[List.map_map,List.map_map,zfS,zfS]
 refine List.map_congr_left fun x hx=>?_
 have hx':=List.mem_range.1 hx;unfold updF;simp only[Function.comp]
 by_cases h1:x=l.length - 1 - i
 · rw[if_pos h1];unfold revP;rw[if_neg (by omega),if_pos (by omega),show l.length - 1 - x=i by omega]
 ·
  rw[if_neg h1]
  by_cases h2:x=i
  · rw[if_pos h2];unfold revP;rw[if_neg (by omega),if_pos (by omega),h2]
  ·
   rw[if_neg h2];unfold revP
   by_cases h3:x < i∨l.length - i≤x
   · rw[if_pos h3,if_pos (by omega)]
   · rw[if_neg h3,if_neg (by omega)]
theorem renS {ρ:Nat→Nat} {l:List St} {g:Nat}:AObj.ren ρ (.row 8 (l.map St.cells) g)=.row 8 (l.map St.cells) g:=by simp only[AObj.ren];rw[zg7 (zj fun s=>s.flat)]
theorem Qbr {p:Prop}(h:p:=by(try simp only[evWB,Nat.reduceBEq,Nat.reduceAdd,Nat.reduceSub,Nat.reduceLeDiff,Nat.reduceLT,implies_true,zu2])<;>exact fin2):p:=h
theorem zns (l:List St) (g:Nat) (hl:l.length≤1000000):zad Tryz.prog zaJ [.own 0 0 g 0 l.length] [(0,.row 8 (l.map St.cells) g)] 1
  (fun v H nx=>v=.tup []∧H=[(0,.row 8 (l.reverse.map St.cells) g)]∧nx=1):=by
 refine zbc (fn_x zdD rfl ?_);unfold zbt;have hB:=hBig
 (refine Qa ?_;intros)
 refine zk (fun i:Nat=>([(0,.own 0 0 g 0 l.length),(2,.int .i64 i),(3,.int .i64 ((l.length:Int) - 1 - i))],[(0,.row 8 ((revL l i).map St.cells) g)])) 1 (fun i=>2 * i≤l.length+1) (fun i=>l.length+1 - i) 0 (by omega) (Ent.tabB [(0,0,0)] [] rfl rfl rfl Qbr Qbr) ?_;intro i hi wf;unfold zbe
 (refine Qa ?_;intros)
 (refine zaT (fun h=>?_) (fun h=>?_))<;>(try simp only[dcd] at h)
 ·
  have e:((l.length:Int) - 1 - i).toNat=l.length - 1 - i:=by omega
  have hsw:=zCA (l:=l) (i:=i) (by omega);have g1:=zyr (l:=l) (i:=i) (show l.length - 1 - i < l.length by omega);have g2:=zyr (l:=l) (i:=i) (show i < l.length by omega)
  (repeat first|simp(disch:=try exact dis1) only[evD,Nat.reduceBEq,Nat.reduceAdd,Nat.reduceLeDiff,e,zDL,g1,g2,St.len,St.eight,List.length_set]|with_reducible first|intro _|refine aJ ?_)
  rw[hsw];exact⟨i+1,by omega,by omega,(Ent.tabB [(0,0,0)] [] rfl rfl rfl Qat Qat)⟩
 ·
  (repeat first|simp(disch:=try exact dis1) only[evD,Nat.reduceBEq,Nat.reduceAdd,Nat.reduceLeDiff,zbw]|with_reducible first|intro _|refine aJ ?_)
  refine⟨.tup [],[(0,.row 8 (l.reverse.map St.cells) g)],1,?_,rfl,rfl,rfl⟩;rw[zEz (by omega)];exact(Ent.tabB [(0,0,0)] [] rfl rfl rfl Qat Qat)
def zfW (ad:Int) (n:Nat) (D:List Bl) (T:Nat→MS):AH:=[(0,.row 2 [[.int .u32 0,.nilsl]] 0),(1,.row 2 [[.int .u32 ad,.own 2 0 0 0 n]] 0),(2,.row 2 (D.map Bl.cells) 0),(3,.row 1 (mps 4 n) 0),(4,famS n T)]
theorem zEO {exit:List Int} {sts:List St} {i:Nat} {a:MS} (h:i < sts.length):keepM exit (sts.drop i) a=if remS sts[i] (keepM exit (sts.drop (i+1)) a).2.keys=true then keepM exit (sts.drop (i+1)) a else (sts[i]::(keepM exit (sts.drop (i+1)) a).1,zep exit sts[i] (keepM exit (sts.drop (i+1)) a).2):=by rw[WF h,keepM]
theorem zCZ {α:Type} {f:α→List AV} {A:List α} {a:α} {i:Nat} {c:List AV} {H HH:AH} {σ:Nat→Nat→Option (Nat × Nat × Nat)} {D:Nat→Nat→Prop} (hf:∀a,zM (f a)=true) (hi:i < A.length) (hl:(f a).length=c.length)
  (h:∀(j:Nat) (x y:AV),c[j]? = some x→(f a)[j]? = some y→Vw H HH σ D true x y):RowV H HH σ D ((A.map f).set i c) ((A.set i a).map f):=by
 refine⟨by simp,fun k c2 hk=>?_⟩;rw[List.map_set] at hk
 by_cases hki:i=k
 · subst hki;rw[List.getElem?_set_self (by simpa using hi)] at hk ⊢;cases hk;exact⟨c,rfl,hl,h⟩
 · rw[List.getElem?_set_ne hki] at hk ⊢;refine⟨c2,hk,rfl,fun j x y h1 h2=>?_⟩;rw[h1] at h2;cases h2;obtain⟨b,_,rfl⟩:=WB.1 (List.mem_of_getElem? hk);exact zN (zbg (hf b) h1)
theorem zAK {H HH:AH} {σ:Nat→Nat→Option (Nat × Nat × Nat)} {D:Nat→Nat→Prop} {r:Nat} {kp:List St} {x:Int} (hD:D r 0) (hg:H.get r 0=some (.row 8 (kp.map St.cells) 0)) (hb:kp.length≤big) :
  ∀(j:Nat) (a b:AV),[AV.int .u32 x,.own r 0 0 0 kp.length][j]? = some a→(Bl.cells ⟨x,kp⟩)[j]? = some b→Vw H HH σ D true a b:=by
 intro j a b h1 h2
 match j with
 | 0=>cases h1;cases h2;exact .int _ _ _
 | 1=>cases h1;cases h2;exact zFY hD hg hb
 | j+2=>cases h1
theorem zHj {Q:QT} (ad:Int) (n b:Nat) (hb:b < n) (hn:n≤1000000) (D:List Bl) (hD:D.length=n) (T:Nat→MS) (exit:List Int) (sts:List St) (a0:MS) (r0:Nat) (m0:Bool)
  (hsz:∀s∈sts,zF s.e≤100000) (ha:a0.ok) (h1:a0.1+zbm exit.length sts≤1000000) (h2:a0.2.length+zbm exit.length sts≤1000000) (hlen:sts.length≤1000000) (hr0:r0+sts.length≤2000000)
  (hfin:∀K H nx,Ent 0 K H nx [(1,za exit),(4,.ptr 0 0 0 0 0),(8,.ptr 1 0 0 0 0),(9,.int .i64 ((r0+(sts.length - (keepM exit sts a0).1.length):Nat):Int)),(10,.bool (m0||decide ((keepM exit sts a0).1.length < sts.length))),(12,.own 3 0 0 0 n),(35,.int .i64 n),(36,.int .i64 ((b+1:Nat):Int))]
   (zfW ad n (D.set b ⟨(D[b]'(by omega)).addr,(keepM exit sts a0).1⟩) T) 5→Q .normal K H nx)
  {K:Kn} {H:AH} {nx:Nat} (hent:Ent 0 K H nx [(1,za exit),(4,.ptr 0 0 0 0 0),(8,.ptr 1 0 0 0 0),(9,.int .i64 r0),(10,.bool m0),(12,.own 3 0 0 0 n),(13,.int .i64 b),(14,.mp 5 0),(15,encL 8 St.cells sts),(16,.own 6 0 0 0 0),(17,.int .i64 ((sts.length:Int) - 1)),(35,.int .i64 n),(36,.int .i64 b)]
   (zfW ad n D T++[(5,.row 3 ((setM a0.1 a0.2).map cm) 0),(6,.row 8 [] 0)]) 7) :
  zky Tryz.prog 0 zdC (zby 4 (seqQ Tryz.prog 0 zdy (zby 3 (seqQ Tryz.prog 0 zdz Q)))) K H nx:=by
 have hB:=hBig
 have hz:keepM exit (sts.drop sts.length) a0=([],a0):=by rw[List.drop_length];rfl
 have hlk:=fun i=>(zqk (exit:=exit) (e:=a0) (sts.drop i)).length_le
 simp only[List.length_drop] at hlk
 refine zk (fun i:Nat=>([(1,za exit),(4,.ptr 0 0 0 0 0),(8,.ptr 1 0 0 0 0),(9,.int .i64 ((r0+(sts.length - i - (keepM exit (sts.drop i) a0).1.length):Nat):Int)),(10,.bool (m0||decide ((keepM exit (sts.drop i) a0).1.length < sts.length - i))),(12,.own 3 0 0 0 n),(13,.int .i64 b),(14,.mp 5 0),(15,encL 8 St.cells sts),(16,.own 6 0 0 0 (keepM exit (sts.drop i) a0).1.length),(17,.int .i64 ((i:Int) - 1)),(35,.int .i64 n),(36,.int .i64 b)],
   zfW ad n D T++[(5,.row 3 ((setM (keepM exit (sts.drop i) a0).2.1 (keepM exit (sts.drop i) a0).2.2).map cm) 0),(6,.row 8 ((keepM exit (sts.drop i) a0).1.reverse.map St.cells) 0)])) 7
  (fun i=>i≤sts.length) (fun i=>i) sts.length (Wd _) ?_ ?_
 · rw[hz];simp only[Wk,WC,Nat.lt_irrefl,decide_false,Bool.or_false,Nat.add_zero,List.reverse_nil,Wo];exact hent
 rintro i hi wf;unfold zdC;have hc:=zo3 (k:=exit.length) (l:=sts) (i:=i);obtain⟨k1,k2,k3⟩:=zyi (exit:=exit) (l:=sts.drop i) ha (by omega) (by omega);have hli:=hlk i
 rcases Nat.eq_zero_or_pos i with rfl|hp
 ·
  rw[List.drop_zero] at *;generalize keepM exit sts a0=R at *;obtain⟨kp,a⟩:=R;simp only[Nat.sub_zero] at *;have hrl:kp.reverse.length=kp.length:=WN;have hrr:kp.reverse.reverse=kp:=List.reverse_reverse kp
  have hbD:b < D.length:=by omega
  have hrev:=zns kp.reverse 0 (by omega);rw[hrl,hrr] at hrev
  (repeat first|simp(disch:=try exact dis1) only[evD,Nat.reduceBEq,Nat.reduceAdd,Nat.reduceLeDiff,dF,Int.natCast_zero,zfW,Wi,Wj]|with_reducible first|intro _|refine aJ ?_)
  unfold zdy
  (refine Qa ?_;intros)
  refine z6 [(0,6,0)] 1 _ (hrev) rfl rfl fin8 fin8 ?_;rintro _ _ _ ⟨rfl,rfl,rfl⟩;have hg:(D.map Bl.cells).getD b []=[.int .u32 D[b].addr,encL 8 St.cells D[b].stmts]:=zq (f:=Bl.cells) (d:=[]) hbD
  have hsp:∀x y z:AV,splice [x,y] 1 [z]=[x,z]:=fun _ _ _=>rfl
  (repeat first|simp(disch:=try exact dis1) only[evD,Nat.reduceBEq,Nat.reduceAdd,Nat.reduceLeDiff,renS,hg,hsp]|with_reducible first|intro _|refine aJ ?_)
  unfold zdz
  (refine Qa ?_;intros)
  refine hfin _ _ _ ?_;refine Ent.tab [(0,0,0),(1,1,0),(2,2,0),(3,3,0),(4,4,0)] [6] rfl ?_ ?_
  · ((try simp only[evWB,Nat.reduceBEq,Nat.reduceAdd,Nat.reduceSub,Nat.reduceLeDiff,Nat.reduceLT,implies_true,zfW,famS])<;>((repeat' with_reducible apply Wp)<;>first|omega|rfl | (exact zCZ (fun _=>rfl) hbD rfl (zAK rfl rfl (by omega));done) | (refine zL zW (by decide) ⟨rfl,rfl⟩ ?_;(try simp only[evWB,Nat.reduceBEq,Nat.reduceAdd,Nat.reduceSub,Nat.reduceLeDiff,Nat.reduceLT,implies_true,zfW,famS])<;>((repeat' with_reducible apply Wp)<;>first|omega|rfl | (refine zL zW (by decide) ⟨rfl,rfl⟩ ?_;(try simp only[evWB,Nat.reduceBEq,Nat.reduceAdd,Nat.reduceSub,Nat.reduceLeDiff,Nat.reduceLT,implies_true,zfW,famS])<;>((repeat' with_reducible apply Wp)<;>first|omega|rfl|exact ziE (fun _=>rfl)|exact Vw.it _ _ rfl|exact Vw.mp _ _ _ _ rfl|exact zL zW (by decide) ⟨rfl,rfl⟩ trivial|exact zL zW (by decide) (fun _ _=>⟨rfl,rfl⟩) trivial | (refine zmb rfl ?_;(repeat' (first|exact zj zW|exact zax|exact zj (fun _=>rfl)|exact zj (fun _=>zn)|exact zj (fun _=>zb)|exact zx zn|exact zx zb|exact zaC rfl|exact zaj|exact zx rfl|refine zag ?_ ?_|refine zm rfl ?_|refine zm zn ?_|refine zm zb ?_));done)|exact zcY rfl | (refine RowV.of_flat ?_;(repeat' (first|exact zj zW|exact zax|exact zj (fun _=>rfl)|exact zj (fun _=>zn)|exact zj (fun _=>zb)|exact zx zn|exact zx zb|exact zaC rfl|exact zaj|exact zx rfl|refine zag ?_ ?_|refine zm rfl ?_|refine zm zn ?_|refine zm zb ?_));done) | ((repeat' (first|exact zj zW|exact zax|exact zj (fun _=>rfl)|exact zj (fun _=>zn)|exact zj (fun _=>zb)|exact zx zn|exact zx zb|exact zaC rfl|exact zaj|exact zx rfl|refine zag ?_ ?_|refine zm rfl ?_|refine zm zn ?_|refine zm zb ?_));done)|exact zhB rfl rfl (by omega)|exact zbD rfl rfl (by omega)|exact zeS rfl rfl (by omega)|exact zht (fun _=>rfl)|exact zL (fun _=>rfl) (by decide) ⟨rfl,rfl⟩ trivial|exact zL (fun _=>rfl) (by decide) (fun _ _=>⟨rfl,rfl⟩) trivial | (simp;done));done)|exact ziE (fun _=>rfl)|exact Vw.it _ _ rfl|exact Vw.mp _ _ _ _ rfl|exact zL zW (by decide) ⟨rfl,rfl⟩ trivial|exact zL zW (by decide) (fun _ _=>⟨rfl,rfl⟩) trivial | (refine zmb rfl ?_;(repeat' (first|exact zj zW|exact zax|exact zj (fun _=>rfl)|exact zj (fun _=>zn)|exact zj (fun _=>zb)|exact zx zn|exact zx zb|exact zaC rfl|exact zaj|exact zx rfl|refine zag ?_ ?_|refine zm rfl ?_|refine zm zn ?_|refine zm zb ?_));done)|exact zcY rfl | (refine RowV.of_flat ?_;(repeat' (first|exact zj zW|exact zax|exact zj (fun _=>rfl)|exact zj (fun _=>zn)|exact zj (fun _=>zb)|exact zx zn|exact zx zb|exact zaC rfl|exact zaj|exact zx rfl|refine zag ?_ ?_|refine zm rfl ?_|refine zm zn ?_|refine zm zb ?_));done) | ((repeat' (first|exact zj zW|exact zax|exact zj (fun _=>rfl)|exact zj (fun _=>zn)|exact zj (fun _=>zb)|exact zx zn|exact zx zb|exact zaC rfl|exact zaj|exact zx rfl|refine zag ?_ ?_|refine zm rfl ?_|refine zm zn ?_|refine zm zb ?_));done)|exact zhB rfl rfl (by omega)|exact zbD rfl rfl (by omega)|exact zeS rfl rfl (by omega)|exact zht (fun _=>rfl)|exact zL (fun _=>rfl) (by decide) ⟨rfl,rfl⟩ trivial|exact zL (fun _=>rfl) (by decide) (fun _ _=>⟨rfl,rfl⟩) trivial | (simp;done));done)|exact ziE (fun _=>rfl)|exact Vw.it _ _ rfl|exact Vw.mp _ _ _ _ rfl|exact zL zW (by decide) ⟨rfl,rfl⟩ trivial|exact zL zW (by decide) (fun _ _=>⟨rfl,rfl⟩) trivial | (refine zmb rfl ?_;(repeat' (first|exact zj zW|exact zax|exact zj (fun _=>rfl)|exact zj (fun _=>zn)|exact zj (fun _=>zb)|exact zx zn|exact zx zb|exact zaC rfl|exact zaj|exact zx rfl|refine zag ?_ ?_|refine zm rfl ?_|refine zm zn ?_|refine zm zb ?_));done)|exact zcY rfl | (refine RowV.of_flat ?_;(repeat' (first|exact zj zW|exact zax|exact zj (fun _=>rfl)|exact zj (fun _=>zn)|exact zj (fun _=>zb)|exact zx zn|exact zx zb|exact zaC rfl|exact zaj|exact zx rfl|refine zag ?_ ?_|refine zm rfl ?_|refine zm zn ?_|refine zm zb ?_));done) | ((repeat' (first|exact zj zW|exact zax|exact zj (fun _=>rfl)|exact zj (fun _=>zn)|exact zj (fun _=>zb)|exact zx zn|exact zx zb|exact zaC rfl|exact zaj|exact zx rfl|refine zag ?_ ?_|refine zm rfl ?_|refine zm zn ?_|refine zm zb ?_));done)|exact zhB rfl rfl (by omega)|exact zbD rfl rfl (by omega)|exact zeS rfl rfl (by omega)|exact zht (fun _=>rfl)|exact zL (fun _=>rfl) (by decide) ⟨rfl,rfl⟩ trivial|exact zL (fun _=>rfl) (by decide) (fun _ _=>⟨rfl,rfl⟩) trivial | (simp;done)))
  · ((try simp only[evWB,Nat.reduceBEq,Nat.reduceAdd,Nat.reduceSub,Nat.reduceLeDiff,Nat.reduceLT,implies_true,zfW])<;>((repeat' with_reducible apply Wp)<;>first|omega|rfl | (rfl;done) | (refine zL zW (by decide) ⟨rfl,rfl⟩ ?_;(try simp only[evWB,Nat.reduceBEq,Nat.reduceAdd,Nat.reduceSub,Nat.reduceLeDiff,Nat.reduceLT,implies_true,zfW])<;>((repeat' with_reducible apply Wp)<;>first|omega|rfl | (refine zL zW (by decide) ⟨rfl,rfl⟩ ?_;(try simp only[evWB,Nat.reduceBEq,Nat.reduceAdd,Nat.reduceSub,Nat.reduceLeDiff,Nat.reduceLT,implies_true,zfW])<;>((repeat' with_reducible apply Wp)<;>first|omega|rfl|exact ziE (fun _=>rfl)|exact Vw.it _ _ rfl|exact Vw.mp _ _ _ _ rfl|exact zL zW (by decide) ⟨rfl,rfl⟩ trivial|exact zL zW (by decide) (fun _ _=>⟨rfl,rfl⟩) trivial | (refine zmb rfl ?_;(repeat' (first|exact zj zW|exact zax|exact zj (fun _=>rfl)|exact zj (fun _=>zn)|exact zj (fun _=>zb)|exact zx zn|exact zx zb|exact zaC rfl|exact zaj|exact zx rfl|refine zag ?_ ?_|refine zm rfl ?_|refine zm zn ?_|refine zm zb ?_));done)|exact zcY rfl | (refine RowV.of_flat ?_;(repeat' (first|exact zj zW|exact zax|exact zj (fun _=>rfl)|exact zj (fun _=>zn)|exact zj (fun _=>zb)|exact zx zn|exact zx zb|exact zaC rfl|exact zaj|exact zx rfl|refine zag ?_ ?_|refine zm rfl ?_|refine zm zn ?_|refine zm zb ?_));done) | ((repeat' (first|exact zj zW|exact zax|exact zj (fun _=>rfl)|exact zj (fun _=>zn)|exact zj (fun _=>zb)|exact zx zn|exact zx zb|exact zaC rfl|exact zaj|exact zx rfl|refine zag ?_ ?_|refine zm rfl ?_|refine zm zn ?_|refine zm zb ?_));done)|exact zhB rfl rfl (by omega)|exact zbD rfl rfl (by omega)|exact zeS rfl rfl (by omega)|exact zht (fun _=>rfl)|exact zL (fun _=>rfl) (by decide) ⟨rfl,rfl⟩ trivial|exact zL (fun _=>rfl) (by decide) (fun _ _=>⟨rfl,rfl⟩) trivial | (simp;done));done)|exact ziE (fun _=>rfl)|exact Vw.it _ _ rfl|exact Vw.mp _ _ _ _ rfl|exact zL zW (by decide) ⟨rfl,rfl⟩ trivial|exact zL zW (by decide) (fun _ _=>⟨rfl,rfl⟩) trivial | (refine zmb rfl ?_;(repeat' (first|exact zj zW|exact zax|exact zj (fun _=>rfl)|exact zj (fun _=>zn)|exact zj (fun _=>zb)|exact zx zn|exact zx zb|exact zaC rfl|exact zaj|exact zx rfl|refine zag ?_ ?_|refine zm rfl ?_|refine zm zn ?_|refine zm zb ?_));done)|exact zcY rfl | (refine RowV.of_flat ?_;(repeat' (first|exact zj zW|exact zax|exact zj (fun _=>rfl)|exact zj (fun _=>zn)|exact zj (fun _=>zb)|exact zx zn|exact zx zb|exact zaC rfl|exact zaj|exact zx rfl|refine zag ?_ ?_|refine zm rfl ?_|refine zm zn ?_|refine zm zb ?_));done) | ((repeat' (first|exact zj zW|exact zax|exact zj (fun _=>rfl)|exact zj (fun _=>zn)|exact zj (fun _=>zb)|exact zx zn|exact zx zb|exact zaC rfl|exact zaj|exact zx rfl|refine zag ?_ ?_|refine zm rfl ?_|refine zm zn ?_|refine zm zb ?_));done)|exact zhB rfl rfl (by omega)|exact zbD rfl rfl (by omega)|exact zeS rfl rfl (by omega)|exact zht (fun _=>rfl)|exact zL (fun _=>rfl) (by decide) ⟨rfl,rfl⟩ trivial|exact zL (fun _=>rfl) (by decide) (fun _ _=>⟨rfl,rfl⟩) trivial | (simp;done));done)|exact ziE (fun _=>rfl)|exact Vw.it _ _ rfl|exact Vw.mp _ _ _ _ rfl|exact zL zW (by decide) ⟨rfl,rfl⟩ trivial|exact zL zW (by decide) (fun _ _=>⟨rfl,rfl⟩) trivial | (refine zmb rfl ?_;(repeat' (first|exact zj zW|exact zax|exact zj (fun _=>rfl)|exact zj (fun _=>zn)|exact zj (fun _=>zb)|exact zx zn|exact zx zb|exact zaC rfl|exact zaj|exact zx rfl|refine zag ?_ ?_|refine zm rfl ?_|refine zm zn ?_|refine zm zb ?_));done)|exact zcY rfl | (refine RowV.of_flat ?_;(repeat' (first|exact zj zW|exact zax|exact zj (fun _=>rfl)|exact zj (fun _=>zn)|exact zj (fun _=>zb)|exact zx zn|exact zx zb|exact zaC rfl|exact zaj|exact zx rfl|refine zag ?_ ?_|refine zm rfl ?_|refine zm zn ?_|refine zm zb ?_));done) | ((repeat' (first|exact zj zW|exact zax|exact zj (fun _=>rfl)|exact zj (fun _=>zn)|exact zj (fun _=>zb)|exact zx zn|exact zx zb|exact zaC rfl|exact zaj|exact zx rfl|refine zag ?_ ?_|refine zm rfl ?_|refine zm zn ?_|refine zm zb ?_));done)|exact zhB rfl rfl (by omega)|exact zbD rfl rfl (by omega)|exact zeS rfl rfl (by omega)|exact zht (fun _=>rfl)|exact zL (fun _=>rfl) (by decide) ⟨rfl,rfl⟩ trivial|exact zL (fun _=>rfl) (by decide) (fun _ _=>⟨rfl,rfl⟩) trivial | (simp;done)))
 ·
  obtain⟨i,rfl⟩:∃k,i=k+1:=⟨i - 1,by omega⟩
  have hil:i < sts.length:=by omega
  have hgl:=zq (f:=St.cells) (d:=[]) hil
  have ei:((i+1:Nat):Int) - 1=i:=by omega
  have hat:=zEO (exit:=exit) (a:=a0) hil;have hl0:=hlk i;have hci:=zsb (k:=exit.length) hil;have hc0:=zo3 (k:=exit.length) (l:=sts) (i:=i);have hrem:=zjT sts[i] (keepM exit (sts.drop (i+1)) a0).2;have hbk:=zjb (keepM exit (sts.drop (i+1)) a0).2 sts[i] exit k1 (hsz _ (Wa hil)) (by omega) (by omega);generalize keepM exit (sts.drop (i+1)) a0=R at *;obtain⟨kp,a⟩:=R;simp only at hrem hbk hli k1 k2 k3 hat
  (repeat first|simp(disch:=try exact dis1) only[evD,Nat.reduceBEq,Nat.reduceAdd,Nat.reduceLeDiff,ei,dT,zfW,Wi,Wj,hgl,St.len,St.eight]|with_reducible first|intro _|refine aJ ?_)
  refine z6 [(0,5,0)] 1 _ (hrem) rfl rfl fin8 fin8 ?_;rintro _ _ _ ⟨rfl,rfl,rfl⟩
  cases hx:remS sts[i] a.keys with
  |
   true =>
   rw[hx,if_pos rfl] at hat
   have hbt:(m0||decide (kp.length < sts.length - i))=true:=by rw[decide_eq_true (by omega)];simp
   (refine QJ ?_;intros)
   refine⟨i,by omega,by omega,?_⟩;exact(Ent.tab [(0,0,0),(1,1,0),(2,2,0),(3,3,0),(4,4,0),(5,5,0),(6,6,0)] [] rfl (by(try simp only[evWB,Nat.reduceBEq,Nat.reduceAdd,Nat.reduceSub,Nat.reduceLeDiff,Nat.reduceLT,implies_true,zfW,famS,hat,hbt,Wi,Wj])<;>exact fin8) (by(try simp only[evWB,Nat.reduceBEq,Nat.reduceAdd,Nat.reduceSub,Nat.reduceLeDiff,Nat.reduceLT,implies_true,zfW,famS,hat,hbt,Wi,Wj])<;>exact fin8))
  |
   false =>
   rw[hx,if_neg (by simp)] at hat
   (repeat first|simp(disch:=try exact dis1) only[evD,Nat.reduceBEq,Nat.reduceAdd,Nat.reduceLeDiff,renM,hgl,St.len,St.eight]|with_reducible first|intro _|refine aJ ?_)
   refine z6 [(0,5,0)] 1 _ (hbk) rfl rfl fin8 fin8 ?_;rintro _ _ _ ⟨rfl,rfl,rfl⟩;have hkl:kp.reverse.length=kp.length:=WN;have htk:(kp.reverse.map St.cells).take kp.length=kp.reverse.map St.cells:=Wl (by rw[Wf,hkl];omega);have hbt:decide (kp.length+1 < sts.length - i)=decide (kp.length < sts.length - (i+1)):=decide_eq_decide.2 (by omega)
   (repeat first|simp(disch:=try exact dis1) only[evD,Nat.reduceBEq,Nat.reduceAdd,Nat.reduceLeDiff,renM,hgl,St.len,St.eight,hkl,htk]|with_reducible first|intro _|refine aJ ?_)
   refine⟨i,by omega,by omega,?_⟩;exact(Ent.tab [(0,0,0),(1,1,0),(2,2,0),(3,3,0),(4,4,0),(5,5,0),(6,6,1)] [] rfl (by(try simp only[evWB,Nat.reduceBEq,Nat.reduceAdd,Nat.reduceSub,Nat.reduceLeDiff,Nat.reduceLT,implies_true,zfW,famS,hat,hbt,Wi,Wj,Ww,WO,Wn,Wg,Wo])<;>exact fin8) (by(try simp only[evWB,Nat.reduceBEq,Nat.reduceAdd,Nat.reduceSub,Nat.reduceLeDiff,Nat.reduceLT,implies_true,zfW,famS,hat,hbt,Wi,Wj,Ww,WO,Wn,Wg,Wo])<;>exact fin8))
def zbT (exit:List Int) (bl:List Bl) (i:Nat):List Bl:=bl.mapIdx fun j b=>if j < i then blkD exit bl j b else b
theorem zez {exit:List Int} {bl:List Bl} {i:Nat}:(zbT exit bl i).length=bl.length:=by simp[zbT]
theorem zxa {exit:List Int} {bl:List Bl}:zbT exit bl 0=bl:=by
 apply WD
 · exact zez
 · intro k h1 h2;simp[zbT]
theorem zwq {exit:List Int} {bl:List Bl}:zbT exit bl bl.length=zcE exit bl:=by
 apply WD
 · rw[zez,zf1]
 · intro k h1 h2;rw[zez] at h1;simp[zbT,zcE,h1]
theorem zAy {exit:List Int} {bl:List Bl} {i:Nat} (h:i < bl.length):(zbT exit bl i)[i]'(by rw[zez];exact h)=bl[i]:=by simp[zbT]
theorem zy1 {exit:List Int} {bl:List Bl} {i:Nat} (h:i < bl.length):(zbT exit bl i).set i ⟨bl[i].addr,(zgS exit bl[i].stmts (zaa exit bl i)).1⟩=zbT exit bl (i+1):=by
 apply WD
 · simp[zbT]
 ·
  intro k h1 h2;rw[zez] at h2;rw[List.getElem_set]
  by_cases hk:i=k
  · subst hk;simp[zbT,blkD]
  ·
   rw[if_neg hk];simp only[zbT,WP]
   by_cases hl:k < i
   · rw[if_pos hl,if_pos (by omega)]
   · rw[if_neg hl,if_neg (by omega)]
theorem zsa {exit:List Int} {bl:List Bl} {i:Nat}:SubB (zbT exit bl i) bl:=by
 refine⟨zez,fun k h1 h2=>?_⟩;simp only[zbT,WP];split
 · exact⟨rfl,zkx _⟩
 · exact⟨rfl,List.Sublist.refl _⟩
theorem zsr {b:Bl}:∀ {l:List Bl} {i:Nat} (h:i < l.length),zJ (l.set i b)+l[i].stmts.length=zJ l+b.stmts.length
 | x::l,0,h=>by simp only[zJ,List.set_cons_zero,Wg,Wr,WA];omega
 |
  x::l,i+1,h=>by
  have:=zsr (b:=b) (l:=l) (i:=i) (by simpa using h);simp only[zJ,List.set_cons_succ,Wg,Wr,List.getElem_cons_succ] at *;omega
theorem zAt {exit:List Int} {x:List Bl}:znV exit x=if zJ (zcE exit x)=zJ x then x else znV exit (zcE exit x):=by
 unfold znV;rw[zrd];split
 · rfl
 · have:=(zdV (exit:=exit) (bl:=x)).count;exact zr8 _ _ _ (by omega) (by omega)
theorem Qbs {p:Prop}(h:p:=by(try simp only[evWB,Nat.reduceBEq,Nat.reduceAdd,Nat.reduceSub,Nat.reduceLeDiff,Nat.reduceLT,implies_true,zfW,famS,List.cons_append,List.nil_append])<;>exact fin8):p:=h
theorem Qbt {p:Prop}(h:p:=by(try simp only[evWB,Nat.reduceBEq,Nat.reduceAdd,Nat.reduceSub,Nat.reduceLeDiff,Nat.reduceLT,implies_true,zfW,famS,za])<;>exact fin8):p:=h
theorem zGe {Q:QT} (ad:Int) (bl:List Bl) (exit U:List Int) (hU:GoodB U exit bl) (S T:Nat→MS) (hE:EndB U exit bl S T) (r0:Nat) (hr0:r0+zJ bl≤1000000)
  (hfin:∀K H nx,Ent 0 K H nx [(1,za exit),(4,.ptr 0 0 0 0 0),(8,.ptr 1 0 0 0 0),(9,.int .i64 ((r0+(zJ bl - zJ (zcE exit bl)):Nat):Int)),(10,.bool (decide (zJ (zcE exit bl) < zJ bl)))]
   [(0,.row 2 [[.int .u32 0,.nilsl]] 0),(1,.row 2 [[.int .u32 ad,.own 2 0 0 0 bl.length]] 0),(2,.row 2 ((zcE exit bl).map Bl.cells) 0)] 3→Q .normal K H nx)
  {K:Kn} {H:AH} {nx:Nat} (hent:Ent 0 K H nx [(1,za exit),(4,.ptr 0 0 0 0 0),(8,.ptr 1 0 0 0 0),(9,.int .i64 r0),(10,.bool false),(12,.own 3 0 0 0 bl.length),(35,.int .i64 bl.length),(36,.int .i64 0)] (zfW ad bl.length bl T) 5) :
  zky Tryz.prog 0 zdv (zby 2 Q) K H nx:=by
 have hB:=hBig;have hlen:=hU.len
 refine zk (fun i:Nat=>([(1,za exit),(4,.ptr 0 0 0 0 0),(8,.ptr 1 0 0 0 0),(9,.int .i64 ((r0+(zJ bl - zJ (zbT exit bl i)):Nat):Int)),(10,.bool (decide (zJ (zbT exit bl i) < zJ bl))),(12,.own 3 0 0 0 bl.length),(35,.int .i64 bl.length),(36,.int .i64 i)],zfW ad bl.length (zbT exit bl i) T)) 5
  (fun i=>i≤bl.length) (fun i=>bl.length - i) 0 (We _) ?_ ?_
 · rw[zxa];simp only[WC,Nat.lt_irrefl,decide_false,Nat.add_zero];exact hent
 rintro i hi wf;unfold zdv
 by_cases hil:i < bl.length
 ·
  have hm:=Wa hil;have hDl:=zez (exit:=exit) (bl:=bl) (i:=i);have hDi:=zAy (exit:=exit) hil;have hDs:=zy1 (exit:=exit) hil;have hDc:=(zsa (exit:=exit) (bl:=bl) (i:=i)).count;have hcs:=zsr (b:=⟨bl[i].addr,(zgS exit bl[i].stmts (zaa exit bl i)).1⟩) (l:=zbT exit bl i) (i:=i) (by omega);rw[hDs,hDi] at hcs;simp only at hcs;have hDc1:=(zsa (exit:=exit) (bl:=bl) (i:=i+1)).count;have hT:=hE.t i;have hTl:=hT.len;have hks:zcM ((T i).2.map (·.1))=zaa exit bl i:=hE.keyT hil
  have hkl:(zaa exit bl i).length=(T i).2.length:=by rw[←hks,(zal _).length_eq,Wf]
  have hcost:=hU.cost _ hm;have hok:(addL (0,[]) (zaa exit bl i)).ok:=zmc zqd (by simp only;omega) (by simp only[Wk];omega);have hbd:=zd0 (l:=zaa exit bl i) (s:=(0,[]));simp only[Wk] at hbd
  have hkeys:∀x,x∈(addL (0,[]) (zaa exit bl i)).keys↔x∈zaa exit bl i:=fun x=>by rw[zeR];simp[MS.keys]
  obtain⟨hkp,_⟩:=zv8 (exit:=exit) hkeys bl[i].stmts;have hll:=(zkx (exit:=exit) (e:=zaa exit bl i) bl[i].stmts).length_le;have hstl:=zkH hm
  have hl0:=fun(Q:QT)=>zHj (Q:=Q) ad bl.length i hil hlen (zbT exit bl i) hDl T exit bl[i].stmts (addL (0,[]) (zaa exit bl i)) (r0+(zJ bl - zJ (zbT exit bl i))) (decide (zJ (zbT exit bl i) < zJ bl)) (fun s hs=>(hU.hsz _ hm s hs).1) hok (by omega) (by omega) (by omega) (by omega)
  simp only[hDi] at hl0;rw[hkp,hDs] at hl0
  have hg:((zbT exit bl i).map Bl.cells).getD i []=[.int .u32 bl[i].addr,encL 8 St.cells bl[i].stmts]:=by have:=zq (f:=Bl.cells) (d:=[]) (l:=zbT exit bl i) (i:=i) (by omega);rw[hDi] at this;exact this
  have hDml:((zbT exit bl i).map Bl.cells).length=bl.length:=by rw[Wf,hDl]
  have hsa:=zhY (0,[]) (zaa exit bl i) zqd (by simp only;omega) (by simp only[Wk];omega);generalize addL (0,[]) (zaa exit bl i)=a0 at *;generalize zaa exit bl i=lo at *;clear hDi hDs hDl;generalize hD:zbT exit bl i=D at *
  (repeat first|simp(disch:=try exact dis1) only[evD,Nat.reduceBEq,Nat.reduceAdd,Nat.reduceLeDiff,dT,zfW,za,zhN,zfn hil]|with_reducible first|intro _|refine aJ ?_)
  refine z6 [(0,4,0)] 1 _ (zcz bl.length i hil T hT.ok) rfl rfl Qav Qav ?_;rintro _ _ _ ⟨rfl,rfl,rfl⟩
  (repeat first|simp(disch:=try exact dis1) only[evD,Nat.reduceBEq,Nat.reduceAdd,Nat.reduceLeDiff,renE,renF,hks,za,zhN,zfn hil]|with_reducible first|intro _|refine aJ ?_)
  refine z6 [(0,5,0)] 1 _ (hsa) rfl rfl Qay Qay ?_;rintro _ _ _ ⟨rfl,rfl,rfl⟩
  (repeat first|simp(disch:=try exact dis1) only[evD,Nat.reduceBEq,Nat.reduceAdd,Nat.reduceLeDiff,renM,za,hg,hDml]|with_reducible first|intro _|refine aJ ?_)
  refine hl0 _ ?_ ?_
  ·
   intro K2 H2 nx2 he;refine⟨i+1,by omega,by show bl.length - (i+1) < bl.length - i;omega,?_⟩
   have e1:r0+(zJ bl - zJ D)+(bl[i].stmts.length - (zgS exit bl[i].stmts lo).1.length)=r0+(zJ bl - zJ (zbT exit bl (i+1))):=by omega
   have e2:(decide (zJ D < zJ bl)||decide ((zgS exit bl[i].stmts lo).1.length < bl[i].stmts.length))=decide (zJ (zbT exit bl (i+1)) < zJ bl):=by rw[←Bool.decide_or];exact decide_eq_decide.2 (by omega)
   rw[e1,e2] at he;exact he
  · exact(Ent.tab [(0,0,0),(1,1,0),(2,2,0),(3,3,0),(4,4,0),(5,5,0),(6,8,0)] [] rfl Qbs Qbs)
 ·
  obtain rfl:i=bl.length:=by omega
  rw[zwq]
  (refine Qg ?_;intros)
  refine hfin _ _ _ ?_;exact(Ent.tab [(0,0,0),(1,1,0),(2,2,0)] [] rfl Qbt Qbt)
theorem zyd {F n g:Nat}:AObj.refs (.row 1 (mps F n) g):=by intro c hc;obtain⟨i,_,rfl⟩:=WB.1 hc;rfl
theorem zGr (a:MC):(cm a).all AV.ref0=true:=by
 unfold cm
 split<;>rfl
theorem zuC {n:Nat} {S:Nat→MS}:AObj.refs (famS n S):=by intro p hp;unfold fi at hp;obtain⟨i,_,rfl⟩:=WB.1 hp;exact zFh zGr
theorem zE7 {n:Nat} {S T:Nat→MS}:AH.refs (bdH n S T):=⟨zyd,zyd,zuC,zuC,trivial⟩
structure RunD (U exit:List Int) (bl0 R x:List Bl) (m:Bool):Prop where
 good:GoodB U exit x
 len:x.length=bl0.length
 cnt:zJ x≤zJ bl0
 go:znV exit x=R
 done:m=false→x=R
theorem RunD.next {U exit:List Int} {bl0 R x:List Bl} (h:RunD U exit bl0 R x true) :
  RunD U exit bl0 R (zcE exit x) (decide (zJ (zcE exit x) < zJ x))∧2 * zJ (zcE exit x)+(bif decide (zJ (zcE exit x) < zJ x) then 1 else 0) < 2 * zJ x+(bif true then 1 else 0):=by
 have hc:=(zdV (exit:=exit) (bl:=x)).count;have hg:=h.go;have hn:=h.cnt;rw[zAt] at hg;refine⟨⟨h.good.sub zdV,by rw[zf1];exact h.len,by omega,?_,fun hm=>?_⟩,?_⟩
 ·
  split at hg
  · rename_i he;rw[zdV.same he];exact h.go
  · exact hg
 · have hm:=of_decide_eq_false hm;rw[if_pos (by omega)] at hg;rw[zdV.same (by omega)];exact hg
 ·
  by_cases hlt:zJ (zcE exit x) < zJ x
  · rw[decide_eq_true hlt];simp only[cond_true];omega
  · rw[decide_eq_false hlt];simp only[cond_true,cond_false];omega
theorem Qbu {p:Prop}(h:p:=by(try simp only[evWB,Nat.reduceBEq,Nat.reduceAdd,Nat.reduceSub,Nat.reduceLeDiff,Nat.reduceLT,implies_true,zfW,famS])<;>exact fin8):p:=h
theorem zGQ {Q:QT} (ad:Int) (bl0 R:List Bl) (exit U:List Int)
  (hcnt:zJ bl0≤1000000)
  (hfin:wpX Tryz.prog 0 zce Q [(4,.ptr 0 0 0 0 0),(8,.ptr 1 0 0 0 0),(9,.int .i64 ((zJ bl0 - zJ R:Nat):Int)),(26,.bool false)]
   [(0,.row 2 [[.int .u32 0,.nilsl]] 0),(1,.row 2 [[.int .u32 ad,.own 2 0 0 0 bl0.length]] 0),(2,.row 2 (R.map Bl.cells) 0)] 3)
  {K:Kn} {H:AH} {nx:Nat} (hrun:RunD U exit bl0 R bl0 true) (hent:Ent 0 K H nx [(1,za exit),(4,.ptr 0 0 0 0 0),(8,.ptr 1 0 0 0 0),(9,.int .i64 0),(10,.bool true)]
   [(0,.row 2 [[.int .u32 0,.nilsl]] 0),(1,.row 2 [[.int .u32 ad,.own 2 0 0 0 bl0.length]] 0),(2,.row 2 (bl0.map Bl.cells) 0)] 3) :
  zky Tryz.prog 0 zdF (zby 0 (seqQ Tryz.prog 0 zce Q)) K H nx:=by
 have hB:=hBig
 refine zk (fun a:List Bl × Bool=>([(1,za exit),(4,.ptr 0 0 0 0 0),(8,.ptr 1 0 0 0 0),(9,.int .i64 ((zJ bl0 - zJ a.1:Nat):Int)),(10,.bool a.2)],
   [(0,.row 2 [[.int .u32 0,.nilsl]] 0),(1,.row 2 [[.int .u32 ad,.own 2 0 0 0 bl0.length]] 0),(2,.row 2 (a.1.map Bl.cells) 0)])) 3
  (fun a=>RunD U exit bl0 R a.1 a.2) (fun a=>2 * zJ a.1+(bif a.2 then 1 else 0)) (bl0,true) hrun ?_ ?_
 · simp only[WC];exact hent
 rintro⟨x,m⟩ hrn wf;simp only at hrn;unfold zdF
 cases m with
 |
  false =>
  obtain rfl:=hrn.done rfl
  (refine Qa ?_;intros)
  exact hfin
 |
  true =>
  obtain⟨n1,n2⟩:=hrn.next;have hxl:=hrn.len;have hxc:=hrn.cnt;have hbd:=zmS ⟨ad,x⟩ exit U hrn.good.univ;have hxb:=hrn.good.len;have hml:(x.map Bl.cells).length=x.length:=Wf _
  (refine Qa ?_;intros)
  refine zAv (D:=inD [2]) hbd (.cons (.agg _ _ _ rfl (fun j a c h1 h2=>?_)) (.cons (zat rfl) .nil)) ?_ ?_
  ·
   match j with
   | 0=>cases h1;cases h2;exact .int _ _ _
   | 1=>cases h1;cases h2;rw[←hxl];exact zBl rfl rfl (by omega)
   | j+2=>cases h1
  · rintro _ _ _ ⟨S,T,rfl,rfl,rfl,_⟩;exact⟨rfl,zE7⟩
  rintro _ _ _ ⟨S,T,rfl,rfl,rfl,hend⟩;simp only at hend
  (refine Qag ?_;intros)
  refine zGe ad x exit U hrn.good S T hend (zJ bl0 - zJ x) (by omega) ?_ ?_
  ·
   intro K2 H2 nx2 he;refine⟨(zcE exit x,_),n1,n2,?_⟩;have hc:=(zdV (exit:=exit) (bl:=x)).count
   have e1:zJ bl0 - zJ x+(zJ x - zJ (zcE exit x))=zJ bl0 - zJ (zcE exit x):=by omega
   rw[e1,hxl] at he;exact he
  · rw[hxl];exact(Ent.tab [(0,0,0),(1,1,0),(2,2,0),(3,4,0),(4,6,0)] [] rfl Qbu Qbu)
def zAs (g:G) (exit:List Int):AV:=if zfs g=0 then .tup [.agg (G.cells ⟨g.addr,znV exit g.blocks⟩),.int .i64 ((zJ g.blocks - zJ (znV exit g.blocks):Nat):Int),.int .i64 0] else .tup [.agg (G.cells ⟨0,[]⟩),.int .i64 0,.int .i64 (zfs g)]
theorem zBZ {exit:List Int} {bl:List Bl}:(znV exit bl).length=bl.length:=(zvH _ _).1
theorem Qba {p:Prop}(h:p:=by(try simp only[evWB,Nat.reduceBEq,Nat.reduceAdd,Nat.reduceSub,Nat.reduceLeDiff,Nat.reduceLT,implies_true,za])<;>exact fin2):p:=h
theorem zfj (g:G) (exit U:List Int) (hU:GoodB U exit g.blocks) (hf:fewB g):zu Tryz.prog zcF [.agg g.cells,za exit] (·=zAs g exit):=by
 refine fn_x zoQ rfl ?_;unfold zjc zAs;have hB:=hBig;have hcg:=zoV g hf (fun b hb s hs=>by have:=(hU.hsz b hb s hs).2;omega);have hcp:=zB9 g hU.len (fun b hb=>Wu (zkH hb) hU.cnt) (fun b hb s hs=>⟨(hU.hsz b hb s hs).1,by have:=(hU.hsz b hb s hs).2;omega⟩);have hpl:=zBZ (exit:=exit) (bl:=g.blocks);have hlen:=hU.len;have hcnt:=hU.cnt;obtain⟨ad,bl⟩:=g;simp only[G.cells] at hcg hcp hpl hU hlen hcnt ⊢
 (refine QG ?_;intros)
 refine ze (zd hcg rfl) ?_
 by_cases hc:zfs ⟨ad,bl⟩=0
 ·
  rw[if_pos hc,hc]
  (repeat first|simp(disch:=try exact dis1) only[evD,Nat.reduceBEq,Nat.reduceAdd,Nat.reduceLeDiff,dF,fldP,za,zac,tab,WG,WH]|with_reducible first|intro _|refine aJ ?_)
  refine z6 [] 0 _ (hcp) rfl rfl fin9 fin9 ?_;rintro _ _ _ ⟨rfl,rfl,rfl⟩
  have hrb:∀ {ρ:Nat→Nat} {l:List Bl} {g:Nat},AObj.ren ρ (.row 2 (l.map Bl.cells) g)=.row 2 (l.map Bl.cells) g:=fun {ρ l g}=>by simp only[AObj.ren];rw[zg7 (zj fun s=>rfl)]
  (repeat first|simp(disch:=try exact dis1) only[evD,Nat.reduceBEq,Nat.reduceAdd,Nat.reduceLeDiff,hrb]|with_reducible first|intro _|refine aJ ?_)
  refine zGQ ad bl (znV exit bl) exit U hcnt ?_ ⟨hU,rfl,Wd _,rfl,fun h=>by cases h⟩ ?_
  ·
   unfold zce
   (repeat first|simp(disch:=try exact dis1) only[evD,Nat.reduceBEq,Nat.reduceAdd,Nat.reduceLeDiff,zfk]|with_reducible first|intro _|refine aJ ?_)
   refine⟨.tup [.agg [.int .u32 ad,encL 2 Bl.cells (znV exit bl)],.int .i64 ((zJ bl - zJ (znV exit bl):Nat):Int),.int .i64 0],.tup _ _ _ rfl (fun j a c h1 h2=>?_),rfl⟩
   match j with
   |
    0 =>
    cases h1;cases h2;refine .agg _ _ _ rfl (fun j a c h1 h2=>?_)
    match j with
    | 0=>cases h1;cases h2;exact .int _ _ _
    | 1=>cases h1;cases h2;rw[←hpl];exact zBl trivial rfl (by omega)
    | j+2=>cases h1
   | 1=>cases h1;cases h2;exact .int _ _ _
   | 2=>cases h1;cases h2;exact .int _ _ _
   | j+3=>cases h1
  · exact(Ent.tab [(0,0,0),(1,2,0),(2,1,0)] [] rfl Qba Qba)
 ·
  rw[if_neg hc]
  (repeat first|simp(disch:=try exact dis1) only[evD,Nat.reduceBEq,Nat.reduceAdd,Nat.reduceLeDiff,fldP,dT,za,zfk]|with_reducible first|intro _|refine aJ ?_)
  refine⟨.tup [.agg [.int .u32 0,encL 2 Bl.cells []],.int .i64 0,.int .i64 (zfs ⟨ad,bl⟩)],.tup _ _ _ rfl (fun j a c h1 h2=>?_),rfl⟩
  match j with
  |
   0 =>
   cases h1;cases h2;refine .agg _ _ _ rfl (fun j a c h1 h2=>?_)
   match j with
   | 0=>cases h1;cases h2;exact .int _ _ _
   | 1=>cases h1;cases h2;exact .nil0 _ _ _
   | j+2=>cases h1
  | 1=>cases h1;cases h2;exact .int _ _ _
  | 2=>cases h1;cases h2;exact .int _ _ _
  | j+3=>cases h1
end Go.Ab
