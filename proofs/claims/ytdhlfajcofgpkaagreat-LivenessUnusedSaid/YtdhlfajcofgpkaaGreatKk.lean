/-
  Part 11 of the proof: how the calls of this program run, over values instead of memory, and what each function computes.
-/
import Derived.KernelRfl
import Derived.Test.YtdhlfajcofgpkaaGreatKj
set_option maxRecDepth 100000
set_option linter.unusedVariables false
set_option linter.unusedSimpArgs false
set_option linter.unnecessarySimpa false
set_option linter.unusedSectionVars false
open List renaming getElem_mem→Wa,getD_eq_getElem?_getD→Wc,length_map→We,map_cons→Wf,getLast?_cons_cons→Wg,cons_append→Wi,nil_append→Wj,length_nil→Wk,take_of_length_le→Wl,getElem?_eq_getElem→Wm,map_append→Wn,map_nil→Wo,length_take→Wq,sum_cons→Wr,take_add_one→Ws,take_length→Wt,all_eq_true→Wv,length_cons→Ww,eq_nil_of_length_eq_zero→Wx,drop_of_length_le→Wy,mem_iff_getElem→Wz,getElem_cons_zero→WA,mem_map→WB,ext_getElem→WD,mem_flatMap→WE,drop_eq_getElem_cons→WF,getD_cons_zero→WG,getD_cons_succ→WH,getLast?_nil→WI,getLast?_eq_none_iff→WJ,ext_getElem?→WK,length_reverse→WL,reverse_cons→WM,getElem_mapIdx→WN
open Bool renaming and_eq_true→Wb
open Nat renaming zero_le→Wd,le_refl→Wh,le_trans→Wu,sub_self→WC
open And renaming intro→Wp
namespace Go.Ab
open Go.RowKit Go.Proofs
structure FewV (exit:List Int) (bl:List Bl):Prop where
 sz:∀b∈bl,∀s∈b.stmts,zF s.e≤100000
 len:bl.length≤1000000
 stmts:∀b∈bl,b.stmts.length≤1000000
 ts:∀b∈bl,(zI b.stmts).length≤1000000
 uni:(univ exit bl).length+exit.length≤400000
theorem zA8 {exit:List Int} {bl:List Bl} {b:Bl} (hb:b∈bl) {s:St} (hs:s∈b.stmts):∀x∈zfj s,x∈univ exit bl:=fun x hx =>
 List.mem_append_right _ (WE.2 ⟨b,hb,WE.2 ⟨s,hs,hx⟩⟩)
theorem renL {ρ:Nat→Nat} {l:List (List Int)} {g:Nat}:AObj.ren ρ (.row 1 (l.map cLL) g)=.row 1 (l.map cLL) g:=by simp only[AObj.ren];rw[zg0 (zj zEC)]
structure RunL (exit:List Int) (bl:List Bl) (ins:List (List Int)) (k:Nat) (c:Bool):Prop where
 inv:LInvU exit bl ins
 fuel:zmo exit bl≤k+zcT ins
 go:fixL exit bl k ins=zbs exit bl
 done:c=false→ins=zbs exit bl
theorem zn1:∀(l:List St) (h:l.length - 1 < l.length),endsOk l=(zcg (l[l.length - 1]'h) && !((l.take (l.length - 1)).any zcg))
 | [],h=>by simp at h
 |
  [x],h=>by
  rw[endsOk,endsOk];simp
 |
  x::y::l,h=>by
  have ih:=zn1 (y::l) (by simp);rw[endsOk,ih];simp only[Ww,Nat.add_sub_cancel,List.isEmpty_cons,List.take_succ_cons,List.any_cons];have e:(x::y::l)[l.length+1]=(y::l)[l.length]:=rfl;rw[e]
  cases zcg x<;>cases zcg (y::l)[l.length]<;>simp
theorem zEP {α:Type} {f:α→List AV} {H H2:AH} {σ:Nat→Nat→Option (Nat × Nat × Nat)} {D:Nat→Nat→Prop} {t:Bool} {l:List α} {sz i n z:Nat} (hi:i≤l.length) (hn:n=i) (hz:z=0) (hf:∀a,zM (f a)=true) :
  Vw H H2 σ D t (.sl sz n (fun a j=>((l.map f).getD (z+a) []).getD j .undef)) (encL sz f (l.take i)):=by
 subst hn hz
 have e:(l.take n).length=n:=by rw[Wq];omega
 unfold encL;rw[e];refine .slf _ _ _ _ _ (fun a j ha hj=>?_)
 have e2:(List.map f (List.take n l)).getD a []=(l.map f).getD (0+a) []:=by rw[Nat.zero_add,List.map_take,Wc,List.getElem?_take_of_lt ha,Wc]
 rw[e2,zq (show 0+a < l.length by omega),Wc]
 cases hx:(f l[0+a])[j]? with
 | none=>exact .undef _ _
 | some x=>exact zO (zbf (hf _) hx)
theorem zr0 (l:List St):PredT (.fn (.func zcH) []) l zcg:=⟨_,_,rfl,by kernel_rfl,rfl,fun s _=>zjf s⟩
theorem QM {p q:Prop}(k:q)(h:Im q p:=by(repeat first|simp(disch:=try exact dis1) only[evD,Nat.reduceBEq,Nat.reduceAdd,Nat.reduceLeDiff,fldP,dT,dF,zeO] | ((with_reducible apply Im.i);intro _) | ((with_reducible apply Im.a);omega));exact Im.r):p:=h k
theorem zrf (t ad:Int) (l:List Bl):zu Tryz.prog zfS [.int .i64 t,encP 2 [.int .u32 ad,encL 2 Bl.cells l]] (·=.bool (!inN l.length t)):=by
 refine fn_x zre rfl ?_;unfold zls inN;have hB:=hBig
 by_cases h0:0≤t
 ·
  by_cases h1:t < l.length
  ·
   rw[decide_eq_true ⟨h0,h1⟩]
   (refine QM ?_;intros)
   exact⟨_,.bool _ _,rfl⟩
  ·
   rw[decide_eq_false (fun h=>h1 h.2)]
   (refine QM ?_;intros)
   exact⟨_,.bool _ _,rfl⟩
 ·
  rw[decide_eq_false (fun h=>h0 h.1)]
  (refine QM ?_;intros)
  exact⟨_,.bool _ _,rfl⟩
theorem zn7 (ad:Int) (l:List Bl) (m:List Int):PredI (.fn (.func zfS) [encP 2 [.int .u32 ad,encL 2 Bl.cells l]]) m (fun t => !inN l.length t):=⟨_,_,rfl,by kernel_rfl,rfl,fun s _=>zrf s ad l⟩
theorem Qz {p q:Prop}(k:q)(h:Im q p:=by(repeat first|simp(disch:=try exact dis1) only[evD,Nat.reduceBEq,Nat.reduceAdd,Nat.reduceLeDiff,zcK] | ((with_reducible apply Im.i);intro _) | ((with_reducible apply Im.a);omega));exact Im.r):p:=h k
theorem zvB (g:G) (hf:fewB g) (hc:∀b∈g.blocks,∀s∈b.stmts,s.cases.length≤100000000):zu Tryz.prog zlO [.agg g.cells] (·=.bool (!g.blocks.isEmpty&&g.blocks.all fun b=>zdv b.stmts g.blocks.length)):=by
 refine fn_x zul rfl ?_;unfold zon;have hB:=hBig;obtain⟨hb,hs⟩:=hf;obtain⟨ad,l⟩:=g;simp only at hb hs hc;simp only[G.cells]
 by_cases h0:l.length=0
 ·
  obtain rfl:l=[]:=Wx h0
  (repeat first|simp(disch:=try exact dis1) only[evD,Nat.reduceBEq,Nat.reduceAdd,Nat.reduceLeDiff,fldP,dT,Wk,zcK]|with_reducible first|intro _|refine aJ ?_)
  exact⟨_,.bool _ _,rfl⟩
 have he:l.isEmpty=false:=by cases l with|nil=>simp at h0|cons a l=>rfl
 rw[he];generalize hR:(l.all fun b=>zdv b.stmts l.length)=R
 (refine Qh ?_;intros)
 refine zk (fun i:Nat=>([(1,encP 2 [.int .u32 ad,encL 2 Bl.cells l]),(11,encL 2 Bl.cells l),(12,.int .i64 l.length),(13,.int .i64 i)],[])) 0 (fun i=>i≤l.length∧((l.drop i).all fun b=>zdv b.stmts l.length)=R) (fun i=>l.length - i) 0 ⟨Wd _,hR⟩ (Ent.keep rfl fin5) ?_;rintro i ⟨hi,hgo⟩ wf;unfold zjt
 by_cases hl:i < l.length
 ·
  have hg:(l.map Bl.cells).getD i []=[.int .u32 l[i].addr,encL 8 St.cells l[i].stmts]:=zq hl;have hss:=zi5 l[i] (hc _ (Wa hl));rw[WF hl,List.all_cons] at hgo;simp only[Bl.cells] at hss;generalize l[i].stmts=m at hg hgo hss;generalize l[i].addr=ad' at hg hss
  by_cases hm0:m.length=0
  ·
   obtain rfl:m=[]:=Wx hm0
   replace hgo:R=false:=by rw[←hgo];rfl
   subst hgo
   (repeat first|simp(disch:=try exact dis1) only[evD,Nat.reduceBEq,Nat.reduceAdd,Nat.reduceLeDiff,fldP,dT,hg,Wk,zcK]|with_reducible first|intro _|refine aJ ?_)
   exact⟨_,.bool _ _,rfl⟩
  have hlast:m.length - 1 < m.length:=by omega
  have hidx:(((m.length:Nat):Int) - 1).toNat=m.length - 1:=by omega
  have hme:m.isEmpty=false:=by cases m with|nil=>simp at hm0|cons a l=>rfl
  unfold zdv at hgo;rw[hme,zn1 m hlast] at hgo
  (repeat first|simp(disch:=try exact dis1) only[evD,Nat.reduceBEq,Nat.reduceAdd,Nat.reduceLeDiff,fldP,dT,dF,hg,hidx,zq hlast,St.len,St.eight]|with_reducible first|intro _|refine aJ ?_)
  refine ze (zd (zjf m[m.length - 1]) rfl) ?_;generalize zcg m[m.length - 1]=q at hgo
  cases q with
  |
   false =>
   replace hgo:R=false:=by rw[←hgo];rfl
   subst hgo
   (refine Qz ?_;intros)
   exact⟨_,.bool _ _,rfl⟩
  |
   true =>
   (repeat first|simp(disch:=try exact dis1) only[evD,Nat.reduceBEq,Nat.reduceAdd,Nat.reduceLeDiff,fldP,zgv,hidx]|with_reducible first|intro _|refine aJ ?_)
   refine ze (zbd (D:=noR) (ziL (m.take (m.length - 1)) _ _ (zr0 _)) (.cons (zEP (by omega) (by omega) rfl (fun _=>rfl)) (.cons (zxL (zr0 (m.take (m.length - 1)))) .nil)) (.inl rfl)) ?_;generalize (m.take (m.length - 1)).any zcg=q at hgo
   cases q with
   |
    true =>
    replace hgo:R=false:=by rw[←hgo];rfl
    subst hgo
    (refine Qz ?_;intros)
    exact⟨_,.bool _ _,rfl⟩
   |
    false =>
    (refine Ql ?_;intros)
    refine ze (zd hss rfl) ?_
    (refine Ql ?_;intros)
    refine ze (zbd (D:=noR) (ziu (zI m) _ _ (zn7 ad l _)) (.cons (zaq rfl) (.cons (zyF (zn7 ad l (zI m))) .nil)) (.inl rfl)) ?_;rw[List.all_eq_not_any_not] at hgo;generalize ((zI m).any fun t => !inN l.length t)=q at hgo
    cases q with
    |
     true =>
     replace hgo:R=false:=by rw[←hgo];rfl
     subst hgo
     (refine Qz ?_;intros)
     exact⟨_,.bool _ _,rfl⟩
    |
     false =>
     replace hgo:((l.drop (i+1)).all fun b=>zdv b.stmts l.length)=R:=by rw[←hgo];rfl
     (refine Qa ?_;intros)
     exact⟨i+1,⟨by omega,hgo⟩,by omega,(Ent.tab [] [] rfl Qau Qau)⟩
 ·
  rw[Wy (by omega)] at hgo
  replace hgo:R=true:=by rw[←hgo];rfl
  subst hgo
  (refine Qh ?_;intros)
  unfold zj4
  (refine Qz ?_;intros)
  exact⟨_,.bool _ _,rfl⟩
theorem Qai {p q:Prop}(k:q)(h:Im q p:=by(repeat first|simp(disch:=try exact dis1) only[evD,Nat.reduceBEq,Nat.reduceAdd,Nat.reduceLeDiff,zbF] | ((with_reducible apply Im.i);intro _) | ((with_reducible apply Im.a);omega));exact Im.r):p:=h k
theorem zoD (g:G) (hf:fewB g) (hc:∀b∈g.blocks,∀s∈b.stmts,s.cases.length≤100000000):zu Tryz.prog zgd [.agg g.cells] (·=.int .i64 (zfE g)):=by
 refine fn_x zoI rfl ?_;unfold ziV;have hB:=hBig;have hsh:=zvB g hf hc;obtain⟨hb,hs⟩:=hf;obtain⟨ad,l⟩:=g;simp only at hb hs hsh;simp only[G.cells,zfE,zx9] at hsh ⊢
 (refine Ql ?_;intros)
 refine zk (fun s:Nat × Nat=>([(1,encP 2 [.int .u32 ad,encL 2 Bl.cells l]),(3,.int .i64 s.2),(12,encL 2 Bl.cells l),(13,.int .i64 l.length),(14,.int .i64 s.1)],[])) 0 (fun s=>s.1≤l.length∧s.2=zJ (l.take s.1)∧s.2≤1100 * s.1) (fun s=>l.length - s.1) (0,0) ⟨Wd _,rfl,Wh _⟩ (Ent.keep rfl fin5) ?_;rintro⟨i,n⟩ ⟨hi,hct,hn⟩ wf;simp only at hi hn hct;unfold zgo
 by_cases hl:i < l.length
 ·
  have hg:(l.map Bl.cells).getD i []=[.int .u32 l[i].addr,encL 8 St.cells l[i].stmts]:=zq hl;have hsl:=hs l[i] (Wa hl)
  (repeat first|simp(disch:=try exact dis1) only[evD,Nat.reduceBEq,Nat.reduceAdd,Nat.reduceLeDiff,fldP,dT,hg]|with_reducible first|intro _|refine aJ ?_)
  exact⟨(i+1,n+l[i].stmts.length),⟨by simp only;omega,by simp only;rw[zo4 hl,hct],by simp only;omega⟩,by simp only;omega,(Ent.tab [] [] rfl Qau Qau)⟩
 rw[Wl (by omega)] at hct
 (refine Qh ?_;intros)
 unfold zge
 by_cases h256:256 < l.length
 ·
  rw[if_pos (.inl h256)]
  (repeat first|simp(disch:=try exact dis1) only[evD,Nat.reduceBEq,Nat.reduceAdd,Nat.reduceLeDiff,fldP,dT,zbF]|with_reducible first|intro _|refine aJ ?_)
  exact⟨_,.int _ _ _,rfl⟩
 by_cases h1024:1024 < n
 ·
  rw[if_pos (.inr (by omega))]
  (repeat first|simp(disch:=try exact dis1) only[evD,Nat.reduceBEq,Nat.reduceAdd,Nat.reduceLeDiff,fldP,dT,dF,zbF]|with_reducible first|intro _|refine aJ ?_)
  exact⟨_,.int _ _ _,rfl⟩
 rw[if_neg (by omega)]
 (repeat first|simp(disch:=try exact dis1) only[evD,Nat.reduceBEq,Nat.reduceAdd,Nat.reduceLeDiff,fldP,dF,zad,tab,WG,WH]|with_reducible first|intro _|refine aJ ?_)
 refine ze (zd hsh rfl) ?_;generalize (!l.isEmpty&&l.all fun b=>zdv b.stmts l.length)=q
 cases q with
 |
  false =>
  (refine Qai ?_;intros)
  exact⟨_,.int _ _ _,rfl⟩
 | true =>
 rw[if_pos rfl]
 (refine Ql ?_;intros)
 refine zk (fun i:Nat=>([(36,encL 2 Bl.cells l),(37,.int .i64 l.length),(38,.int .i64 i)],[])) 0 (fun i=>i≤l.length∧zgR (l.drop i)=zgR l) (fun i=>l.length - i) 0 ⟨Wd _,rfl⟩ (Ent.keep rfl fin5) ?_;rintro i ⟨hi,hgo⟩ wf;unfold zgn
 by_cases hl:i < l.length
 ·
  have hg:(l.map Bl.cells).getD i []=[.int .u32 l[i].addr,encL 8 St.cells l[i].stmts]:=zq hl;have hsl:=hs l[i] (Wa hl);rw[zqz hl] at hgo
  (repeat first|simp(disch:=try exact dis1) only[evD,Nat.reduceBEq,Nat.reduceAdd,Nat.reduceLeDiff,fldP,dT,hg]|with_reducible first|intro _|refine aJ ?_)
  generalize l[i].stmts=m at hg hgo hsl;generalize l[i].addr=ad' at hg;refine zk (fun j:Nat=>([(36,encL 2 Bl.cells l),(37,.int .i64 l.length),(38,.int .i64 i),(43,encL 8 St.cells m),(44,.int .i64 m.length),(45,.int .i64 j)],[])) 0 (fun j=>j≤m.length∧zen (m.drop j)=zen m) (fun j=>m.length - j) 0 ⟨Wd _,rfl⟩ (Ent.tab [] [] rfl Qau Qau) ?_;rintro j ⟨hj,hgo2⟩ wf2;unfold zf3
  by_cases hm:j < m.length
  ·
   rw[zpG hm] at hgo2
   (repeat first|simp(disch:=try exact dis1) only[evD,Nat.reduceBEq,Nat.reduceAdd,Nat.reduceLeDiff,fldP,dT,zq hm,St.len,St.eight,St.flat]|with_reducible first|intro _|refine aJ ?_)
   refine ze (zd (zqK m[j]) rfl) ?_
   by_cases hx:m[j].check=0
   ·
    rw[if_neg (by omega)] at hgo2
    (refine Qg ?_;intros)
    exact⟨j+1,⟨by omega,hgo2⟩,by omega,(Ent.tab [] [] rfl Qau Qau)⟩
   ·
    rw[if_pos hx] at hgo2;rw[←hgo2,if_pos hx] at hgo;rw[←hgo]
    (repeat first|simp(disch:=try exact dis1) only[evD,Nat.reduceBEq,Nat.reduceAdd,Nat.reduceLeDiff,dT,zbF]|with_reducible first|intro _|refine aJ ?_)
    exact⟨_,.int _ _ _,rfl⟩
  ·
   rw[Wy (by omega),zen] at hgo2;rw[←hgo2,if_neg (by omega)] at hgo
   (refine Qh ?_;intros)
   unfold zgj
   (refine Qa ?_;intros)
   exact⟨i+1,⟨by omega,hgo⟩,by omega,Ent.keep rfl fin5⟩
 rw[Wy (by omega),zgR] at hgo;rw[←hgo]
 (refine Qh ?_;intros)
 unfold zgk
 (refine Qai ?_;intros)
 exact⟨_,.int _ _ _,rfl⟩
mutual
def zjH:Ex→Bool
 | .mk op _ _ _ l=>decide (op=18)||zlW l
def zlW:List Ex→Bool
 | []=>false
 | x::l=>zjH x||zlW l
end
theorem zpt:∀l:List Ex,zlW l=l.any zjH
 | []=>by rw[zlW];rfl
 | x::l=>by rw[zlW,zpt l];rfl
theorem znG:∀(k:Nat) (e:Ex),zbp e≤k→zu Tryz.prog zbD [.agg (encX e)] (·=.bool (zjH e)):=by
 intro k
 induction k with
 | zero=>intro e h;obtain⟨_,_,_,_,l⟩:=e;rw[zbp] at h;omega
 | succ k ih =>
 intro e hk;obtain⟨op,nn,v,w,l⟩:=e;refine fn_x znc rfl ?_;unfold zhN;have hB:=hBig;rw[zbp] at hk;rw[zbl,zjH,zpt]
 by_cases h1:op=18
 ·
  rw[decide_eq_true h1,Bool.true_or]
  (repeat first|simp(disch:=try exact dis1) only[evD,Nat.reduceBEq,Nat.reduceAdd,Nat.reduceLeDiff,fldP,dT,encP,zeC]|with_reducible first|intro _|refine aJ ?_)
  exact⟨_,.bool _ _,rfl⟩
 ·
  rw[decide_eq_false h1,Bool.false_or];have hp:PredE (.fn (.func zbD) []) l zjH:=⟨_,_,rfl,by kernel_rfl,rfl,fun s hs=>ih s (by have:=zcx hs;omega)⟩
  (refine Qh ?_;intros)
  refine ze (zbd (D:=noR) (zN l _ _ hp) (.cons (zaq rfl) (.cons (zdm hp) .nil)) (.inl rfl)) ?_
  (repeat first|simp(disch:=try exact dis1) only[evD,Nat.reduceBEq,Nat.reduceAdd,Nat.reduceLeDiff,zeC]|with_reducible first|intro _|refine aJ ?_)
  exact⟨_,.bool _ _,rfl⟩
theorem zqD (l:List Ex):PredE (.fn (.func zbD) []) l zjH:=⟨_,_,rfl,by kernel_rfl,rfl,fun s _=>znG _ s (Wh _)⟩
def remS (s:St) (a:List Int):Bool:=decide (s.op=1)&&(!decide (s.var∈a) && !s.e.any zjH)
theorem zjF (s:St) (a:MS):zab Tryz.prog zc1 [.agg s.cells,.mp 0 0] [(0,.row 3 ((setM a.1 a.2).map cm) 0)] 1
  (fun v H nx=>v=.bool (remS s a.keys)∧H=[(0,.row 3 ((setM a.1 a.2).map cm) 0)]∧nx=1):=by
 refine zbc (fn_x zkn rfl ?_);unfold zeZ;have hB:=hBig;obtain⟨c,ps⟩:=a;obtain⟨op,var,width,next,els,tgt,l,cs⟩:=s;unfold remS MS.keys;simp only
 by_cases h1:op=1
 ·
  rw[decide_eq_true h1,Bool.true_and]
  by_cases hm:var∈ps.map (·.1)
  ·
   obtain⟨j,hj,hje,hf⟩:=zmU hm;rw[decide_eq_true hm]
   (repeat first|simp(disch:=try exact dis1) only[evD,Nat.reduceBEq,Nat.reduceAdd,Nat.reduceLeDiff,fldP,St.cells,za,dT,zB,hf,zbG,Bool.not_true,Bool.false_and]|with_reducible first|intro _|refine aJ ?_)
   exact⟨.bool false,_,_,(Ent.tabB [(0,0,0)] [] rfl rfl rfl Qav Qav),rfl,rfl,rfl⟩
  ·
   have hf:=zkE hm;rw[decide_eq_false hm]
   (repeat first|simp(disch:=try exact dis1) only[evD,Nat.reduceBEq,Nat.reduceAdd,Nat.reduceLeDiff,fldP,St.cells,za,dT,zB,hf]|with_reducible first|intro _|refine aJ ?_)
   refine ze (zbd (D:=noR) (zN l _ _ (zqD l)) (.cons (zaq rfl) (.cons (zdm (zqD l)) .nil)) (.inl rfl)) ?_
   (repeat first|simp(disch:=try exact dis1) only[evD,Nat.reduceBEq,Nat.reduceAdd,Nat.reduceLeDiff,zbG,Bool.not_false,Bool.true_and]|with_reducible first|intro _|refine aJ ?_)
   exact⟨.bool (!l.any zjH),_,_,(Ent.tabB [(0,0,0)] [] rfl rfl rfl Qav Qav),rfl,rfl,rfl⟩
 ·
  rw[decide_eq_false h1,Bool.false_and]
  (repeat first|simp(disch:=try exact dis1) only[evD,Nat.reduceBEq,Nat.reduceAdd,Nat.reduceLeDiff,fldP,St.cells,za,dF,zB,zbG]|with_reducible first|intro _|refine aJ ?_)
  exact⟨.bool false,_,_,(Ent.tabB [(0,0,0)] [] rfl rfl rfl Qav Qav),rfl,rfl,rfl⟩
theorem Qbo {p:Prop}(h:p:=by(try simp only[evWB,Nat.reduceBEq,Nat.reduceAdd,Nat.reduceSub,Nat.reduceLeDiff,Nat.reduceLT,implies_true,List.take_zero])<;>exact fin2):p:=h
theorem znq:∀(k:Nat) (e:Ex),zbp e≤k→k≤1000000→zu Tryz.prog zdn [.agg (encX e)] (·=.agg (encX e)):=by
 intro k
 induction k with
 | zero=>intro e h;obtain⟨_,_,_,_,l⟩:=e;rw[zbp] at h;omega
 | succ k ih =>
 intro e hk hk2;obtain⟨op,nn,v,w,l⟩:=e;refine fn_x zm9 rfl ?_;unfold zhJ;have hB:=hBig;rw[zbp] at hk;have hll:l.length≤zF l:=zkL l;rw[zbl]
 (refine Ql ?_;intros)
 refine zk (fun i:Nat=>([(1,.ptr 0 0 0 0 0),(2,.ptr 1 0 0 0 0),(3,.own 2 0 0 0 i),(7,encL 5 encX l),(8,.int .i64 l.length),(9,.int .i64 i)],[(0,.row 5 [[.int .i64 op,.int .u32 nn,.int .i64 v,.int .i64 w,encL 5 encX l]] 0),(1,.row 5 [[.int .i64 0,.int .u32 0,.int .i64 0,.int .i64 0,.nilsl]] 0),(2,.row 5 ((l.take i).map encX) 0)])) 3
  (fun i=>i≤l.length) (fun i=>l.length - i) 0 (Wd _) (Ent.tab [(0,0,0),(1,1,0),(2,2,0)] [] rfl Qbo Qbo) ?_
 rintro i hi wf;unfold zfu
 by_cases hil:i < l.length
 ·
  have hm:=zcx (Wa hil)
  have htk:(l.take (i+1)).map encX=(l.take i).map encX++[encX l[i]]:=by rw[Ws,Wm hil,Wn];rfl
  have htl:((l.take i).map encX).length=i:=by rw[We,Wq];omega
  generalize l.take i=T at htk htl ⊢;have htT:(T.map encX).take i=T.map encX:=Wl (by omega)
  (repeat first|simp(disch:=try exact dis1) only[evD,Nat.reduceBEq,Nat.reduceAdd,Nat.reduceLeDiff,fldP,dT,zq hil,zaJ,zal,zb]|with_reducible first|intro _|refine aJ ?_)
  refine ze (zd (ih l[i] (by omega) (by omega)) (flX rfl)) ?_
  (repeat first|simp(disch:=try exact dis1) only[evD,Nat.reduceBEq,Nat.reduceAdd,Nat.reduceLeDiff,zaJ,zal,zb,htl,htT]|with_reducible first|intro _|refine aJ ?_)
  refine⟨i+1,by omega,by omega,?_⟩;exact(Ent.tab [(0,0,0),(1,1,0),(2,2,1)] [] rfl (by(try simp only[evWB,Nat.reduceBEq,Nat.reduceAdd,Nat.reduceSub,Nat.reduceLeDiff,Nat.reduceLT,implies_true,htk])<;>exact fin7) (by(try simp only[evWB,Nat.reduceBEq,Nat.reduceAdd,Nat.reduceSub,Nat.reduceLeDiff,Nat.reduceLT,implies_true,htk])<;>exact fin7))
 ·
  obtain rfl:i=l.length:=by omega
  rw[Wt]
  (refine Qh ?_;intros)
  unfold zfI
  (refine Ql ?_;intros)
  (repeat first|simp(disch:=try exact dis1) only[evD,Nat.reduceBEq,Nat.reduceAdd,Nat.reduceLeDiff,zhX]|with_reducible first|intro _|refine aJ ?_)
  refine⟨.agg [.int .i64 op,.int .u32 nn,.int .i64 v,.int .i64 w,encL 5 encX l],.agg _ _ _ rfl (fun j a c h1 h2=>?_),rfl⟩
  match j with
  | 0=>cases h1;cases h2;exact .int _ _ _
  | 1=>cases h1;cases h2;exact .int _ _ _
  | 2=>cases h1;cases h2;exact .int _ _ _
  | 3=>cases h1;cases h2;exact .int _ _ _
  | 4=>cases h1;cases h2;exact zoS trivial rfl (by omega)
  | j+5=>cases h1
theorem zFK {H H2:AH} {σ:Nat→Nat→Option (Nat × Nat × Nat)} {D:Nat→Nat→Prop} {t:Bool} {r q g:Nat} {l:List St} (hD:D r q) (hg:H.get r q=some (.row 8 (l.map St.cells) g)) (hb:l.length≤big):Vw H H2 σ D t (.own r q g 0 l.length) (encL 8 St.cells l) :=
 zhq hD hg hb fun a _ j _=>by
  rw[Wc]
  cases hx:a.cells[j]? with
  | none=>exact .undef _ _
  | some x=>exact zO (zbf a.flat hx)
theorem zBZ {H H2:AH} {σ:Nat→Nat→Option (Nat × Nat × Nat)} {D:Nat→Nat→Prop} {t:Bool} {r q g:Nat} {l:List Bl} (hD:D r q) (hg:H.get r q=some (.row 2 (l.map Bl.cells) g)) (hb:l.length≤big):Vw H H2 σ D t (.own r q g 0 l.length) (encL 2 Bl.cells l) :=
 zhq hD hg hb fun a _ j _=>by
  rw[Wc]
  cases hx:a.cells[j]? with
  | none=>exact .undef _ _
  | some x=>exact zO (zbf (show zM a.cells=true from rfl) hx)
theorem Qbp {p:Prop}(h:p:=by(try simp only[evWB,Nat.reduceBEq,Nat.reduceAdd,Nat.reduceSub,Nat.reduceLeDiff,Nat.reduceLT,implies_true,List.map_append,List.map_cons,List.map_nil,St.cells])<;>exact fin7):p:=h
theorem zCw {Q:QT} (ad ad2:Int) (bl:List Bl) (done:List Bl) (i:Nat) (sts:List St) (j:Nat) (op var width next els tgt:Int) (l:List Ex) (cs:List Int) (hsz:zF l≤100000)
  (hcs:cs.length≤1000000) (hj:j < sts.length) (hjl:sts.length≤1000000) (hst:sts[j]=⟨op,var,width,next,els,tgt,l,cs⟩)
  (hfin:∀K H nx,Ent 0 K H nx [(2,.ptr 0 0 0 0 0),(3,.ptr 1 0 0 0 0),(6,.ptr 3 0 0 0 0),(16,encL 2 Bl.cells bl),(17,.int .i64 bl.length),(18,.int .i64 i),(26,encL 8 St.cells sts),(27,.int .i64 sts.length),(28,.int .i64 ((j+1:Nat):Int))]
   [(0,.row 2 [[.int .u32 0,.nilsl]] 0),(1,.row 2 [[.int .u32 ad,.own 2 0 0 0 done.length]] 0),(2,.row 2 (done.map Bl.cells) 0),(3,.row 2 [[.int .u32 ad2,.own 4 0 0 0 (j+1)]] 0),(4,.row 8 ((sts.take (j+1)).map St.cells) 0)] 5→Q .normal K H nx)
  {K:Kn} {H:AH} {nx:Nat} (hent:Ent 0 K H nx [(2,.ptr 0 0 0 0 0),(3,.ptr 1 0 0 0 0),(6,.ptr 3 0 0 0 0),(8,.ptr 5 0 0 0 0),(9,.own 6 0 0 0 0),(16,encL 2 Bl.cells bl),(17,.int .i64 bl.length),(18,.int .i64 i),(26,encL 8 St.cells sts),(27,.int .i64 sts.length),(28,.int .i64 j),(33,encL 5 encX l),(34,.int .i64 l.length),(35,.int .i64 0)]
   [(0,.row 2 [[.int .u32 0,.nilsl]] 0),(1,.row 2 [[.int .u32 ad,.own 2 0 0 0 done.length]] 0),(2,.row 2 (done.map Bl.cells) 0),(3,.row 2 [[.int .u32 ad2,.own 4 0 0 0 j]] 0),(4,.row 8 ((sts.take j).map St.cells) 0),(5,.row 8 [[.int .i64 op,.int .i64 var,.int .i64 width,.int .i64 next,.int .i64 els,.int .u32 tgt,encL 5 encX l,za cs]] 0),(6,.row 5 [] 0)] 7) :
  zjG Tryz.prog 0 zcB (zbv 4 (seqQ Tryz.prog 0 zcN (zbv 3 (seqQ Tryz.prog 0 zcJ Q)))) K H nx:=by
 have hB:=hBig;have hll:l.length≤zF l:=zkL l
 refine zk (fun m:Nat=>([(2,.ptr 0 0 0 0 0),(3,.ptr 1 0 0 0 0),(6,.ptr 3 0 0 0 0),(8,.ptr 5 0 0 0 0),(9,.own 6 0 0 0 m),(16,encL 2 Bl.cells bl),(17,.int .i64 bl.length),(18,.int .i64 i),(26,encL 8 St.cells sts),(27,.int .i64 sts.length),(28,.int .i64 j),(33,encL 5 encX l),(34,.int .i64 l.length),(35,.int .i64 m)],
   [(0,.row 2 [[.int .u32 0,.nilsl]] 0),(1,.row 2 [[.int .u32 ad,.own 2 0 0 0 done.length]] 0),(2,.row 2 (done.map Bl.cells) 0),(3,.row 2 [[.int .u32 ad2,.own 4 0 0 0 j]] 0),(4,.row 8 ((sts.take j).map St.cells) 0),(5,.row 8 [[.int .i64 op,.int .i64 var,.int .i64 width,.int .i64 next,.int .i64 els,.int .u32 tgt,encL 5 encX l,za cs]] 0),(6,.row 5 ((l.take m).map encX) 0)])) 7
  (fun m=>m≤l.length) (fun m=>l.length - m) 0 (Wd _) hent ?_
 rintro m hm wf;unfold zcB
 by_cases hil:m < l.length
 ·
  have hmm:=zcx (Wa hil)
  have htk:(l.take (m+1)).map encX=(l.take m).map encX++[encX l[m]]:=by rw[Ws,Wm hil,Wn];rfl
  have htl:((l.take m).map encX).length=m:=by rw[We,Wq];omega
  generalize l.take m=T at htk htl ⊢;generalize sts.take j=S at *;have htT:(T.map encX).take m=T.map encX:=Wl (by omega)
  (repeat first|simp(disch:=try exact dis1) only[evD,Nat.reduceBEq,Nat.reduceAdd,Nat.reduceLeDiff,fldP,dT,zq hil,zaJ,zal,zb]|with_reducible first|intro _|refine aJ ?_)
  refine ze (zd (znq (zbp l[m]) l[m] (Wh _) (by omega)) (flX rfl)) ?_
  (repeat first|simp(disch:=try exact dis1) only[evD,Nat.reduceBEq,Nat.reduceAdd,Nat.reduceLeDiff,zaJ,zal,zb,htl,htT]|with_reducible first|intro _|refine aJ ?_)
  refine⟨m+1,by omega,by omega,?_⟩;exact(Ent.tab [(0,0,0),(1,1,0),(2,2,0),(3,3,0),(4,4,0),(5,5,0),(6,6,1)] [] rfl (by(try simp only[evWB,Nat.reduceBEq,Nat.reduceAdd,Nat.reduceSub,Nat.reduceLeDiff,Nat.reduceLT,implies_true,htk])<;>exact fin7) (by(try simp only[evWB,Nat.reduceBEq,Nat.reduceAdd,Nat.reduceSub,Nat.reduceLeDiff,Nat.reduceLT,implies_true,htk])<;>exact fin7))
 ·
  obtain rfl:m=l.length:=by omega
  rw[Wt]
  (refine Qg ?_;intros)
  unfold zcN
  (refine Qa ?_;intros)
  refine z6 [] 0 _ (ztU cs (by omega)) rfl rfl Qax Qax ?_;rintro _ _ _ ⟨rfl,rfl,rfl⟩
  have hl8:((sts.take j).map St.cells).length=j:=by rw[We,Wq];omega
  have hsj:sts.take (j+1)=sts.take j++[⟨op,var,width,next,els,tgt,l,cs⟩]:=by rw[Ws,Wm hj,hst];rfl
  rw[hsj] at hfin;generalize sts.take j=S at *;have hS8:(S.map St.cells).take j=S.map St.cells:=Wl (by omega)
  (repeat first|simp(disch:=try exact dis1) only[evD,Nat.reduceBEq,Nat.reduceAdd,Nat.reduceLeDiff,renI,hl8,hS8]|with_reducible first|intro _|refine aJ ?_)
  unfold zcJ
  (refine Qa ?_;intros)
  refine hfin _ _ _ ?_;exact(Ent.tab [(0,0,0),(1,1,0),(2,2,0),(3,3,0),(4,4,1)] [6,7] rfl Qbp Qbp)
theorem Qbc {p:Prop}(h:p:=by(try simp only[evWB,Nat.reduceBEq,Nat.reduceAdd,Nat.reduceSub,Nat.reduceLeDiff,Nat.reduceLT,implies_true])<;>exact fin7):p:=h
theorem Qbq {p:Prop}(h:p:=by(try simp only[evWB,Nat.reduceBEq,Nat.reduceAdd,Nat.reduceSub,Nat.reduceLeDiff,Nat.reduceLT,implies_true,List.map_append,List.map_cons,List.map_nil,Bl.cells])<;>exact fin7):p:=h
theorem zBt {Q:QT} (ad ad2:Int) (bl:List Bl) (i:Nat) (hi:i < bl.length) (hbl:bl.length≤1000000) (sts:List St) (hb:bl[i]=⟨ad2,sts⟩) (hjl:sts.length≤1000000)
  (hsz:∀s∈sts,zF s.e≤100000∧s.cases.length≤1000000)
  (hfin:∀K H nx,Ent 0 K H nx [(2,.ptr 0 0 0 0 0),(3,.ptr 1 0 0 0 0),(16,encL 2 Bl.cells bl),(17,.int .i64 bl.length),(18,.int .i64 ((i+1:Nat):Int))]
   [(0,.row 2 [[.int .u32 0,.nilsl]] 0),(1,.row 2 [[.int .u32 ad,.own 2 0 0 0 (i+1)]] 0),(2,.row 2 ((bl.take (i+1)).map Bl.cells) 0)] 3→Q .normal K H nx)
  {K:Kn} {H:AH} {nx:Nat} (hent:Ent 0 K H nx [(2,.ptr 0 0 0 0 0),(3,.ptr 1 0 0 0 0),(6,.ptr 3 0 0 0 0),(16,encL 2 Bl.cells bl),(17,.int .i64 bl.length),(18,.int .i64 i),(26,encL 8 St.cells sts),(27,.int .i64 sts.length),(28,.int .i64 0)]
   [(0,.row 2 [[.int .u32 0,.nilsl]] 0),(1,.row 2 [[.int .u32 ad,.own 2 0 0 0 i]] 0),(2,.row 2 ((bl.take i).map Bl.cells) 0),(3,.row 2 [[.int .u32 ad2,.own 4 0 0 0 0]] 0),(4,.row 8 [] 0)] 5) :
  zjG Tryz.prog 0 zct (zbv 2 (seqQ Tryz.prog 0 zcE (zbv 1 (seqQ Tryz.prog 0 zcw Q)))) K H nx:=by
 have hB:=hBig
 refine zk (fun j:Nat=>([(2,.ptr 0 0 0 0 0),(3,.ptr 1 0 0 0 0),(6,.ptr 3 0 0 0 0),(16,encL 2 Bl.cells bl),(17,.int .i64 bl.length),(18,.int .i64 i),(26,encL 8 St.cells sts),(27,.int .i64 sts.length),(28,.int .i64 j)],
   [(0,.row 2 [[.int .u32 0,.nilsl]] 0),(1,.row 2 [[.int .u32 ad,.own 2 0 0 0 i]] 0),(2,.row 2 ((bl.take i).map Bl.cells) 0),(3,.row 2 [[.int .u32 ad2,.own 4 0 0 0 j]] 0),(4,.row 8 ((sts.take j).map St.cells) 0)])) 5
  (fun j=>j≤sts.length) (fun j=>sts.length - j) 0 (Wd _) hent ?_
 rintro j hj wf;unfold zct
 have hdl:(bl.take i).length=i:=by rw[Wq];omega
 by_cases hil:j < sts.length
 ·
  obtain⟨z1,z2⟩:=hsz _ (Wa hil);have hgs:=zq (f:=St.cells) (d:=[]) hil;have hst:sts[j]=⟨sts[j].op,sts[j].var,sts[j].width,sts[j].next,sts[j].els,sts[j].tgt,sts[j].e,sts[j].cases⟩:=rfl
  have hl0:=fun(Q:QT)=>zCw (Q:=Q) ad ad2 bl (bl.take i) i sts j sts[j].op sts[j].var sts[j].width sts[j].next sts[j].els sts[j].tgt sts[j].e sts[j].cases z1 z2 hil hjl hst
  rw[hdl] at hl0;simp only[St.cells] at hgs
  (repeat first|simp(disch:=try exact dis1) only[evD,Nat.reduceBEq,Nat.reduceAdd,Nat.reduceLeDiff,fldP,dT,hgs]|with_reducible first|intro _|refine aJ ?_)
  refine hl0 _ ?_ ?_
  · intro K2 H2 nx2 he;exact⟨j+1,by omega,by show sts.length - (j+1) < sts.length - j;omega,he⟩
  · exact(Ent.tab [(0,0,0),(1,1,0),(2,2,0),(3,3,0),(4,4,0),(5,5,0),(6,6,0)] [] rfl Qbc Qbc)
 ·
  obtain rfl:j=sts.length:=by omega
  rw[Wt]
  have hbk:bl.take (i+1)=bl.take i++[⟨ad2,sts⟩]:=by rw[Ws,Wm hi,hb];rfl
  rw[hbk] at hfin;generalize bl.take i=D at *;have hD:(D.map Bl.cells).take i=D.map Bl.cells:=Wl (by rw[We];omega)
  have hDl:(D.map Bl.cells).length=i:=by rw[We];omega
  (refine Qg ?_;intros)
  unfold zcE
  (repeat first|simp(disch:=try exact dis1) only[evD,Nat.reduceBEq,Nat.reduceAdd,Nat.reduceLeDiff,hD,hDl]|with_reducible first|intro _|refine aJ ?_)
  unfold zcw
  (refine Qa ?_;intros)
  refine hfin _ _ _ ?_;exact(Ent.tab [(0,0,0),(1,1,0),(2,2,1)] [4] rfl Qbq Qbq)
theorem Qbr {p:Prop}(h:p:=by(try simp only[evWB,Nat.reduceBEq,Nat.reduceAdd,Nat.reduceSub,Nat.reduceLeDiff,Nat.reduceLT,implies_true,List.take_zero,List.map_nil])<;>exact fin2):p:=h
theorem zCk (g:G) (hbl:g.blocks.length≤1000000) (hst:∀b∈g.blocks,b.stmts.length≤1000000) (hsz:∀b∈g.blocks,∀s∈b.stmts,zF s.e≤100000∧s.cases.length≤1000000) :
  zab Tryz.prog zeG [.agg g.cells] [] 0 (fun v H nx=>v=.agg [.int .u32 g.addr,.own 0 0 0 0 g.blocks.length]∧H=[(0,.row 2 (g.blocks.map Bl.cells) 0)]∧nx=1):=by
 refine zbc (fn_x zmp rfl ?_);unfold zhc;have hB:=hBig;obtain⟨ad,bl⟩:=g;simp only at hbl hst hsz ⊢
 (repeat first|simp(disch:=try exact dis1) only[evD,Nat.reduceBEq,Nat.reduceAdd,Nat.reduceLeDiff,fldP,G.cells]|with_reducible first|intro _|refine aJ ?_)
 refine zk (fun i:Nat=>([(2,.ptr 0 0 0 0 0),(3,.ptr 1 0 0 0 0),(16,encL 2 Bl.cells bl),(17,.int .i64 bl.length),(18,.int .i64 i)],
   [(0,.row 2 [[.int .u32 0,.nilsl]] 0),(1,.row 2 [[.int .u32 ad,.own 2 0 0 0 i]] 0),(2,.row 2 ((bl.take i).map Bl.cells) 0)])) 3
  (fun i=>i≤bl.length) (fun i=>bl.length - i) 0 (Wd _) (Ent.tab [(0,0,0),(1,1,0)] [] rfl Qbr Qbr) ?_
 rintro i hi wf;unfold ze5
 by_cases hil:i < bl.length
 ·
  have hm:=Wa hil;have hgl:=zq (f:=Bl.cells) (d:=[]) hil
  have hl3:=fun(Q:QT)=>zBt (Q:=Q) ad bl[i].addr bl i hil hbl bl[i].stmts rfl (hst _ hm) (hsz _ hm)
  simp only[Bl.cells] at hgl
  (repeat first|simp(disch:=try exact dis1) only[evD,Nat.reduceBEq,Nat.reduceAdd,Nat.reduceLeDiff,fldP,dT,hgl]|with_reducible first|intro _|refine aJ ?_)
  refine hl3 _ ?_ ?_
  · intro K2 H2 nx2 he;exact⟨i+1,by omega,by show bl.length - (i+1) < bl.length - i;omega,he⟩
  · exact(Ent.tab [(0,0,0),(1,1,0),(2,2,0),(3,4,0)] [] rfl Qbc Qbc)
 ·
  obtain rfl:i=bl.length:=by omega
  rw[Wt]
  (refine Qg ?_;intros)
  unfold ze2
  (repeat first|simp(disch:=try exact dis1) only[evD,Nat.reduceBEq,Nat.reduceAdd,Nat.reduceLeDiff,zg7]|with_reducible first|intro _|refine aJ ?_)
  exact⟨.agg [.int .u32 ad,.own 0 0 0 0 bl.length],[(0,.row 2 (bl.map Bl.cells) 0)],1,(Ent.tab [(0,2,0)] [] rfl Qbc Qbc),rfl,rfl,rfl⟩
def zm0 (exit:List Int):List St→List Int→List St × List Int
 | [],a=>([],a)
 | s::l,a=>if remS s (zm0 exit l a).2=true then zm0 exit l a else (s::(zm0 exit l a).1,zfd exit s (zm0 exit l a).2)
def keepM (exit:List Int):List St→MS→List St × MS
 | [],a=>([],a)
 | s::l,a=>if remS s (keepM exit l a).2.keys=true then keepM exit l a else (s::(keepM exit l a).1,zek exit s (keepM exit l a).2)
theorem zAt {s:St} {a b:List Int} (h:∀x,x∈a↔x∈b):remS s a=remS s b:=by unfold remS;rw[decide_eq_decide.2 (h s.var)]
theorem zuU {exit:List Int} {a:MS} {e:List Int} (h:∀x,x∈a.keys↔x∈e):∀l:List St,(keepM exit l a).1=(zm0 exit l e).1∧∀x,x∈(keepM exit l a).2.keys↔x∈(zm0 exit l e).2
 | []=>⟨rfl,h⟩
 |
  s::l=>by
  obtain⟨h1,h2⟩:=zuU h l;unfold keepM zm0;rw[zAt h2];split
  · exact⟨h1,h2⟩
  · exact⟨by rw[h1],zpV h2⟩
theorem zjT {exit:List Int} {e:List Int}:∀l:List St,((zm0 exit l e).1).Sublist l
 | []=>List.Sublist.slnil
 |
  s::l=>by
  unfold zm0;split
  · exact(zjT l).cons s
  · exact(zjT l).cons_cons s
theorem zqr {exit:List Int} {e:MS}:∀l:List St,((keepM exit l e).1).Sublist l
 | []=>List.Sublist.slnil
 |
  s::l=>by
  unfold keepM;split
  · exact(zqr l).cons s
  · exact(zqr l).cons_cons s
theorem zyk {exit:List Int}:∀ {l:List St} {a:MS},a.ok→a.1+zbn exit.length l≤1000000→a.2.length+zbn exit.length l≤1000000 →
  (keepM exit l a).2.ok∧(keepM exit l a).2.1≤a.1+zbn exit.length l∧(keepM exit l a).2.2.length≤a.2.length+zbn exit.length l
 | [],a,h,_,_=>⟨h,by show a.1≤a.1+(0:Nat);omega,Wh _⟩
 |
  s::l,a,h,h1,h2=>by
  have e:zbn exit.length (s::l)=zF s.e+exit.length+zbn exit.length l:=rfl;rw[e] at h1 h2 ⊢;obtain⟨i1,i2,i3⟩:=zyk (exit:=exit) (l:=l) h (by omega) (by omega);unfold keepM;split
  · exact⟨i1,by omega,by omega⟩
  · obtain⟨j1,j2,j3⟩:=zyD (exit:=exit) (s:=s) i1 (by omega) (by omega);exact⟨j1,by simp only;omega,by simp only;omega⟩
def blkD (exit:List Int) (bl:List Bl) (i:Nat) (b:Bl):Bl:=⟨b.addr,(zm0 exit b.stmts (zaD exit bl i)).1⟩
def zcY (exit:List Int) (bl:List Bl):List Bl:=bl.mapIdx (blkD exit bl)
theorem zkz {exit:List Int} {bl:List Bl}:(zcY exit bl).length=bl.length:=by simp[zcY]
theorem zzz {exit:List Int} {bl:List Bl} {i:Nat} (h:i < bl.length):(zcY exit bl)[i]'(by rw[zkz];exact h)=blkD exit bl i bl[i]:=by simp[zcY]
def SubB (a b:List Bl):Prop:=a.length=b.length∧∀i (h1:i < a.length) (h2:i < b.length),a[i].addr=b[i].addr∧(a[i].stmts).Sublist b[i].stmts
theorem SubB.rfl' {a:List Bl}:SubB a a:=⟨rfl,fun _ _ _=>⟨rfl,List.Sublist.refl _⟩⟩
theorem SubB.trans {a b c:List Bl} (h:SubB a b) (k:SubB b c):SubB a c:=⟨h.1.trans k.1,fun i h1 h2=>by
 obtain⟨x1,x2⟩:=h.2 i h1 (by have:=h.1;omega);obtain⟨y1,y2⟩:=k.2 i (by have:=h.1;omega) h2
 exact⟨x1.trans y1,x2.trans y2⟩⟩
theorem zdS {exit:List Int} {bl:List Bl}:SubB (zcY exit bl) bl:=⟨zkz,fun i h1 h2=>by rw[zzz h2];exact⟨rfl,zjT _⟩⟩
theorem SubB.mem {a b:List Bl} (h:SubB a b) {x:Bl} (hx:x∈a):∃y∈b,x.addr=y.addr∧(x.stmts).Sublist y.stmts:=by obtain⟨i,hi,rfl⟩:=Wz.1 hx;have hl:=h.1;obtain⟨h1,h2⟩:=h.2 i hi (by omega);exact⟨_,Wa _,h1,h2⟩
theorem SubB.count:∀ {a b:List Bl},SubB a b→zJ a≤zJ b
 | [],[],_=>Wh _
 | [],y::b,h=>by have:=h.1;simp at this
 | x::a,[],h=>by have:=h.1;simp at this
 |
  x::a,y::b,h=>by
  have h1:=(h.2 0 (by simp) (by simp)).2.length_le;have h2:SubB a b:=⟨by have:=h.1;simpa using this,fun i h1 h2=>h.2 (i+1) (by simpa using h1) (by simpa using h2)⟩;have h3:=SubB.count h2;simp only[WA] at h1;simp only[zJ,Wf,Wr] at h3 ⊢;omega
theorem SubB.same:∀ {a b:List Bl},SubB a b→zJ a=zJ b→a=b
 | [],[],_,_=>rfl
 | [],y::b,h,_=>by have:=h.1;simp at this
 | x::a,[],h,_=>by have:=h.1;simp at this
 |
  x::a,y::b,h,hc=>by
  obtain⟨ha,hs⟩:=h.2 0 (by simp) (by simp);have h2:SubB a b:=⟨by have:=h.1;simpa using this,fun i h1 h2=>h.2 (i+1) (by simpa using h1) (by simpa using h2)⟩;have h3:=h2.count;simp only[WA] at ha hs;have hl:=hs.length_le;simp only[zJ,Wf,Wr] at hc h3;have e1:x.stmts=y.stmts:=hs.eq_of_length (by omega);rw[SubB.same h2 (by simp only[zJ];omega)]
  congr 1
  obtain⟨a1,s1⟩:=x;obtain⟨a2,s2⟩:=y;simp only at ha e1;rw[ha,e1]
theorem zCR {k:Nat} {a b:List St} (h:a.Sublist b):zbn k a≤zbn k b:=by
 induction h with
 | slnil=>exact Wh _
 | cons s _ ih=>show _≤zF s.e+k+_;omega
 | cons_cons s _ ih=>show zF s.e+k+_≤zF s.e+k+_;omega
structure GoodB (U exit:List Int) (bl:List Bl):Prop where
 he:∀x∈exit,x∈U
 hu:∀b∈bl,∀s∈b.stmts,∀x∈zfj s,x∈U
 hsz:∀b∈bl,∀s∈b.stmts,zF s.e≤100000∧s.cases.length≤100000
 cost:∀b∈bl,2 * U.length+zbn exit.length b.stmts≤1000000
 cnt:zJ bl≤1000000
 len:bl.length≤1000000
theorem zvH {s:St}:(zan s).length≤s.cases.length+2:=by
 unfold zan;split
 · simp
 ·
  split
  · simp
  ·
   split
   · omega
   · simp
theorem zpz {l:List St} {n:Nat} (h:∀s∈l,s.cases.length≤n):(zI l).length≤n+2:=by
 unfold zI;split
 · simp
 · rename_i s hs;have:=h s (List.mem_of_getLast? hs);have:=zvH (s:=s);omega
theorem zkF {bl:List Bl} {b:Bl} (h:b∈bl):b.stmts.length≤zJ bl:=by
 induction bl with
 | nil=>cases h
 |
  cons x l ih =>
  simp only[zJ,Wf,Wr] at ih ⊢
  rcases List.mem_cons.1 h with rfl|h
  · omega
  · have:=ih h;omega
theorem GoodB.univ {U exit:List Int} {bl:List Bl} (h:GoodB U exit bl):UnivB U exit bl:=by
 refine⟨h.he,h.hu,fun b hb s hs=>(h.hsz b hb s hs).1,h.cost,fun b hb=>⟨fun s hs=>?_,?_,?_⟩,h.len⟩
 · have:=(h.hsz b hb s hs).2;omega
 · exact Wu (zkF hb) h.cnt
 ·
  have:=zpz (l:=b.stmts) (n:=100000) fun s hs=>(h.hsz b hb s hs).2
  omega
theorem GoodB.sub {U exit:List Int} {a b:List Bl} (h:GoodB U exit b) (k:SubB a b):GoodB U exit a:=by
 refine⟨h.he,fun x hx s hs=>?_,fun x hx s hs=>?_,fun x hx=>?_,Wu k.count h.cnt,by rw[k.1];exact h.len⟩
 · obtain⟨y,hy,_,h2⟩:=k.mem hx;exact h.hu y hy s (h2.mem hs)
 · obtain⟨y,hy,_,h2⟩:=k.mem hx;exact h.hsz y hy s (h2.mem hs)
 · obtain⟨y,hy,_,h2⟩:=k.mem hx;have:=zCR (k:=exit.length) h2;have:=h.cost y hy;omega
def zvu (exit:List Int):Nat→List Bl→List Bl
 | 0,bl=>bl
 | k+1,bl=>if zJ (zcY exit bl)=zJ bl then bl else zvu exit k (zcY exit bl)
theorem zuE {exit:List Int}:∀(k:Nat) (bl:List Bl),SubB (zvu exit k bl) bl
 | 0,bl=>SubB.rfl'
 |
  k+1,bl=>by
  unfold zvu;split
  · exact SubB.rfl'
  · exact(zuE k _).trans zdS
theorem zr7 {exit:List Int}:∀(k k':Nat) (bl:List Bl),zJ bl < k→zJ bl < k'→zvu exit k bl=zvu exit k' bl
 | 0,_,bl,h,_=>absurd h (Nat.not_lt_zero _)
 | _+1,0,bl,_,h=>absurd h (Nat.not_lt_zero _)
 |
  k+1,k'+1,bl,h,h'=>by
  unfold zvu;split
  · rfl
  · have:=(zdS (exit:=exit) (bl:=bl)).count;exact zr7 k k' _ (by omega) (by omega)
def zro (exit:List Int) (bl:List Bl):List Bl:=zvu exit (zJ bl+1) bl
theorem zw8 {s:St} {a:List Int} (h:remS s a=true):s.op=1∧s.var∉a:=by unfold remS at h;simp only[Wb,Bool.not_eq_true',decide_eq_true_eq,decide_eq_false_iff_not] at h;exact⟨h.1,h.2.1⟩
inductive SubD (exit e:List Int):List St→List St→Prop
 | nil:SubD exit e [] []
 | keep {s:St} {x y:List St}:SubD exit e x y→SubD exit e (s::x) (s::y)
 | drop {s:St} {x y:List St}:SubD exit e x y→remS s (zfn exit x e)=true→SubD exit e x (s::y)
theorem SubD.refl {exit e:List Int}:∀ {l:List St},SubD exit e l l
 | []=>.nil
 | _::_=>.keep SubD.refl
theorem SubD.sub {exit e:List Int} {x y:List St} (h:SubD exit e x y):x.Sublist y:=by
 induction h with
 | nil=>exact List.Sublist.slnil
 | keep _ ih=>exact ih.cons_cons _
 | drop _ _ ih=>exact ih.cons _
theorem SubD.last {exit e:List Int} {x y:List St} (h:SubD exit e x y) (hy:∀s,y.getLast? = some s→s.op≠1):x.getLast? = y.getLast? := by
 induction h with
 | nil=>rfl
 |
  @keep s x y h ih =>
  cases h with
  | nil=>rfl
  |
   @keep s2 x y h =>
   have:=ih (fun t ht=>hy t (by rw[Wg];exact ht));rw[Wg,Wg];exact this
  |
   @drop s2 x y h hr =>
   have:=ih (fun t ht=>hy t (by rw[Wg];exact ht));rw[Wg,←this]
   cases x with
   |
    nil =>
    rw[WI] at this;exact absurd (WJ.1 this.symm) (by simp)
   | cons t x=>rw[Wg]
 |
  @drop s x y h hr ih =>
  cases y with
  | nil=>exact absurd (zw8 hr).1 (hy s rfl)
  | cons t y=>rw[Wg];exact ih (fun u hu=>hy u (by rw[Wg];exact hu))
def zCK (exit e:List Int):List St→List St
 | []=>[]
 | s::l=>if remS s (zfn exit l e)=true then zCK exit e l else s::zCK exit e l
def zCT (g:List Bl):Prop:=∀b∈g,b.stmts≠[]∧∀s,b.stmts.getLast? = some s→s.op≠1
structure RelD (exit:List Int) (x y:List Bl):Prop where
 len:x.length=y.length
 blk:∀i (h1:i < x.length) (h2:i < y.length),x[i].addr=y[i].addr∧SubD exit (zaD exit x i) x[i].stmts y[i].stmts
theorem zrA {g:List Bl} {i:Nat} (h:i < g.length):(g.map (·.stmts)).getD i []=g[i].stmts:=zq h
theorem zD6 {exit:List Int} {g:List Bl} {ins:List (List Int)} {i:Nat} (h:i < g.length):newB exit g ins i=zga exit g[i].stmts (endB ins g[i].stmts):=by unfold newB;rw[zrA h]
theorem zpT {exit:List Int} {g:List Bl} {i:Nat} (h:i < g.length):zaD exit g i=endB (zbs exit g) g[i].stmts:=by unfold zaD;rw[zrA h]
theorem zrR {exit:List Int} {g:List Bl}:(zbs exit g).length=g.length:=(zkA exit g).1.len
theorem zzV {exit e:List Int} {l:List St} (h:l≠[]):zga exit l e=zfn exit l e:=by unfold zga;rw[if_neg (by cases l with|nil=>exact absurd rfl h|cons a l=>simp)]
theorem zzk {exit:List Int} {g:List Bl} {i:Nat} (h:i < g.length):(zbs exit g).getD i []=zga exit g[i].stmts (zaD exit g i):=by rw[←(zkA exit g).2 i h,zD6 h,zpT h]
theorem SubD.ne {exit e:List Int} {x y:List St} (h:SubD exit e x y) (hy:y≠[]∧∀s,y.getLast? = some s→s.op≠1):x≠[]:=by have:=h.last hy.2;rintro rfl;rw[WI] at this;exact hy.1 (WJ.1 this.symm)
theorem RelD.ends {exit:List Int} {x y:List Bl} (h:RelD exit x y) (hy:zCT y):zCT x:=by
 intro b hb;obtain⟨i,hi,rfl⟩:=Wz.1 hb
 have hiy:i < y.length:=by have:=h.len;omega
 obtain⟨_,h2⟩:=h.blk i hi hiy;have hm:=hy _ (Wa hiy);exact⟨h2.ne hm,by rw[h2.last hm.2];exact hm.2⟩
theorem RelD.refl {exit:List Int} {x:List Bl}:RelD exit x x:=⟨rfl,fun _ _ _=>⟨rfl,SubD.refl⟩⟩
theorem RelD.subB {exit:List Int} {x y:List Bl} (h:RelD exit x y):SubB x y:=⟨h.len,fun i h1 h2=>⟨(h.blk i h1 h2).1,(h.blk i h1 h2).2.sub⟩⟩
def zBE (exit:List Int) (bl:List Bl):List Bl:=bl.mapIdx fun i b=>⟨b.addr,zCK exit (zaD exit bl i) b.stmts⟩
def deadR (exit:List Int):Nat→List Bl→List Bl
 | 0,bl=>bl
 | k+1,bl=>if zJ (zBE exit bl)=zJ bl then zBE exit bl else deadR exit k (zBE exit bl)
theorem SubD.endsOk {exit e:List Int} {x y:List St} (h:SubD exit e x y) (hy:endsOk y=true):endsOk x=true∧(y≠[]→x≠[]):=by
 induction h with
 | nil=>exact⟨rfl,fun h=>h⟩
 |
  @keep s x y h ih =>
  rw[Go.Ab.endsOk,Wb,beq_iff_eq] at hy;obtain⟨i1,i2⟩:=ih hy.2;refine⟨?_,fun _=>by simp⟩;rw[Go.Ab.endsOk,i1,Bool.and_true,beq_iff_eq,hy.1]
  cases y with
  | nil=>cases h;rfl
  |
   cons t y =>
   cases x with
   | nil=>exact absurd rfl (i2 (by simp))
   | cons u x=>rfl
 |
  @drop s x y h hr ih =>
  rw[Go.Ab.endsOk,Wb,beq_iff_eq] at hy;obtain⟨i1,i2⟩:=ih hy.2;refine⟨i1,fun _=>?_⟩
  have he:zcg s=false:=by unfold zcg;rw[(zw8 hr).1];rfl
  rw[he] at hy;refine i2 ?_;rintro rfl;cases hy.1
theorem zlT:∀ {l:List St},endsOk l=true→∀s,l.getLast? = some s→s.op≠1
 | [],_,s,h=>by cases h
 |
  [x],h,s,hs=>by
  simp only[List.getLast?_singleton,Option.some.injEq] at hs;subst hs;rw[endsOk,Wb,beq_iff_eq] at h;have:=h.1;intro h1;unfold zcg at this;rw[h1] at this;cases this
 |
  x::y::l,h,s,hs=>by
  rw[endsOk,Wb] at h;rw[Wg] at hs;exact zlT h.2 s hs
theorem zlY:∀ {l:List St},zen l=0↔∀s∈l,s.check=0
 | []=>by simp[zen]
 |
  s::l=>by
  rw[zen];split
  ·
   rename_i h;constructor
   · intro h2;exact absurd h2 h
   · intro h2;exact absurd (h2 s (by simp)) h
  · rename_i h;rw[zlY];have h:s.check=0:=Classical.not_not.1 h;simp[h]
theorem zlE:∀ {l:List Bl},zgR l=0↔∀b∈l,∀s∈b.stmts,s.check=0
 | []=>by simp[zgR]
 |
  b::l=>by
  rw[zgR];split
  ·
   rename_i h;constructor
   · intro h2;exact absurd h2 h
   · intro h2;exact absurd (zlY.2 (h2 b (by simp))) h
  ·
   rename_i h;rw[zlE];have h:zen b.stmts=0:=Classical.not_not.1 h;rw[zlY] at h;constructor
   ·
    intro h2 c hc
    rcases List.mem_cons.1 hc with rfl|hc
    · exact h
    · exact h2 c hc
   · exact fun h2 c hc=>h2 c (List.mem_cons_of_mem _ hc)
structure OkG (g:G):Prop where
 len:g.blocks.length≤256
 cnt:zJ g.blocks≤1024
 ne:g.blocks≠[]
 closed:∀b∈g.blocks,b.stmts≠[]∧endsOk b.stmts=true∧∀t∈zI b.stmts,0≤t∧t < g.blocks.length
 chk:∀b∈g.blocks,∀s∈b.stmts,s.check=0
theorem zv3 {g:G}:zfE g=0↔OkG g:=by
 unfold zfE zx9;constructor
 ·
  intro h;split at h
  · cases h
  ·
   rename_i h1;split at h
   ·
    rename_i h2;rw[Wb,Wv] at h2;refine⟨by omega,by omega,?_,fun b hb=>?_,zlE.1 h⟩
    · rintro h3;rw[h3] at h2;cases h2.1
    · have:=h2.2 b hb;unfold zdv at this;rw[Wb,Wb,Wv] at this;refine⟨?_,this.2.1,fun t ht=>of_decide_eq_true (this.2.2 t ht)⟩;rintro h3;rw[h3] at this;cases this.1
   · cases h
 ·
  rintro⟨h1,h2,h3,h4,h5⟩;rw[if_neg (by omega),if_pos,zlE.2 h5];rw[Wb,Wv];refine⟨?_,fun b hb=>?_⟩
  ·
   cases hg:g.blocks with
   | nil=>exact absurd hg h3
   | cons a l=>rfl
  ·
   obtain⟨k1,k2,k3⟩:=h4 b hb;unfold zdv;rw[Wb,Wb,Wv];refine⟨?_,k2,fun t ht=>decide_eq_true (k3 t ht)⟩
   cases hg:b.stmts with
   | nil=>exact absurd hg k1
   | cons a l=>rfl
theorem OkG.ends {g:G} (h:OkG g):zCT g.blocks:=fun b hb=>⟨(h.closed b hb).1,zlT (h.closed b hb).2.1⟩
theorem OkG.rel {exit:List Int} {g:G} (h:OkG g) {x:List Bl} (k:RelD exit x g.blocks):OkG ⟨g.addr,x⟩:=by
 have hs:=k.subB;refine⟨by have:=k.len;have:=h.len;simp only;omega,Wu hs.count h.cnt,?_,fun b hb=>?_,fun b hb s hm=>?_⟩
 · have:=k.len;intro h2;simp only at h2;rw[h2] at this;exact h.ne (Wx this.symm)
 ·
  obtain⟨i,hi,rfl⟩:=Wz.1 hb;simp only at hi ⊢
  have hig:i < g.blocks.length:=by have:=k.len;omega
  obtain⟨c1,c2,c3⟩:=h.closed _ (Wa hig);obtain⟨_,h2⟩:=k.blk i hi hig;obtain⟨e1,e2⟩:=h2.endsOk c2;refine⟨e2 c1,e1,?_⟩;have hl:=h2.last (zlT c2)
  have:zI x[i].stmts=zI g.blocks[i].stmts:=by unfold zI;rw[hl]
  rw[this,k.len];exact c3
 · obtain⟨y,hy,_,h2⟩:=hs.mem hb;exact h.chk y hy s (h2.mem hm)
def st0:St:=⟨0,0,0,0,0,0,[],[]⟩
def revP (l:List St) (i x:Nat):St:=if x < i∨l.length - i≤x then l.getD (l.length - 1 - x) st0 else l.getD x st0
def revL (l:List St) (i:Nat):List St:=(List.range l.length).map (revP l i)
theorem zEc {l:List St} {i:Nat}:(revL l i).length=l.length:=by simp[revL]
theorem zuI {l:List St}:revL l 0=l:=by
 apply WK;intro x;unfold revL revP
 by_cases hx:x < l.length
 ·
  have:¬l.length≤x:=by omega
  simp[hx,Wc,this]
 · simp[hx]
theorem zEE {l:List St} {i:Nat} (h:l.length≤2 * i+1):revL l i=l.reverse:=by
 apply WK;intro x;unfold revL revP
 by_cases hx:x < l.length
 ·
  rw[List.getElem?_reverse hx];simp only[List.getElem?_map,List.getElem?_range hx,Option.map_some]
  by_cases hc:x < i∨l.length - i≤x
  · rw[if_pos hc];rw[Wc,Wm (show l.length - 1 - x < l.length by omega)];rfl
  · rw[if_neg hc,show l.length - 1 - x=x by omega,Wc,Wm hx];rfl
 · simp[hx]
theorem zx4 {l:List St} {i x:Nat} (hx:x < l.length):((revL l i).map St.cells).getD x []=(revP l i x).cells:=by simp[revL,Wc,hx]
theorem zCY {l:List St} {i:Nat} (h:2 * i+1 < l.length) :
  (((revL l i).map St.cells).set i (revP l i (l.length - 1 - i)).cells).set (l.length - 1 - i) (revP l i i).cells=(revL l (i+1)).map St.cells:=by
 unfold revL;rw[List.map_map,List.map_map,zfX,zfX]
 refine List.map_congr_left fun x hx=>?_
 have hx':=List.mem_range.1 hx;unfold updF;simp only[Function.comp]
 by_cases h1:x=l.length - 1 - i
 · rw[if_pos h1];unfold revP;rw[if_neg (by omega),if_pos (by omega),show l.length - 1 - x=i by omega]
 ·
  rw[if_neg h1]
  by_cases h2:x=i
  · rw[if_pos h2];unfold revP;rw[if_neg (by omega),if_pos (by omega),h2]
  ·
   rw[if_neg h2];unfold revP
   by_cases h3:x < i∨l.length - i≤x
   · rw[if_pos h3,if_pos (by omega)]
   · rw[if_neg h3,if_neg (by omega)]
theorem renS {ρ:Nat→Nat} {l:List St} {g:Nat}:AObj.ren ρ (.row 8 (l.map St.cells) g)=.row 8 (l.map St.cells) g:=by simp only[AObj.ren];rw[zg0 (zj fun s=>s.flat)]
theorem Qbs {p:Prop}(h:p:=by(try simp only[evWB,Nat.reduceBEq,Nat.reduceAdd,Nat.reduceSub,Nat.reduceLeDiff,Nat.reduceLT,implies_true,zuI])<;>exact fin2):p:=h
theorem znB (l:List St) (g:Nat) (hl:l.length≤1000000):zab Tryz.prog zaK [.own 0 0 g 0 l.length] [(0,.row 8 (l.map St.cells) g)] 1
  (fun v H nx=>v=.tup []∧H=[(0,.row 8 (l.reverse.map St.cells) g)]∧nx=1):=by
 refine zbc (fn_x zdt rfl ?_);unfold zbt;have hB:=hBig
 (refine Qa ?_;intros)
 refine zk (fun i:Nat=>([(0,.own 0 0 g 0 l.length),(2,.int .i64 i),(3,.int .i64 ((l.length:Int) - 1 - i))],[(0,.row 8 ((revL l i).map St.cells) g)])) 1 (fun i=>2 * i≤l.length+1) (fun i=>l.length+1 - i) 0 (by omega) (Ent.tabB [(0,0,0)] [] rfl rfl rfl Qbs Qbs) ?_;intro i hi wf;unfold zbe
 (refine Qa ?_;intros)
 (refine zaS (fun h=>?_) (fun h=>?_))<;>(try simp only[dcd] at h)
 ·
  have e:((l.length:Int) - 1 - i).toNat=l.length - 1 - i:=by omega
  have hsw:=zCY (l:=l) (i:=i) (by omega);have g1:=zx4 (l:=l) (i:=i) (show l.length - 1 - i < l.length by omega);have g2:=zx4 (l:=l) (i:=i) (show i < l.length by omega)
  (repeat first|simp(disch:=try exact dis1) only[evD,Nat.reduceBEq,Nat.reduceAdd,Nat.reduceLeDiff,e,zEc,g1,g2,St.len,St.eight,List.length_set]|with_reducible first|intro _|refine aJ ?_)
  rw[hsw];exact⟨i+1,by omega,by omega,(Ent.tabB [(0,0,0)] [] rfl rfl rfl Qau Qau)⟩
 ·
  (repeat first|simp(disch:=try exact dis1) only[evD,Nat.reduceBEq,Nat.reduceAdd,Nat.reduceLeDiff,zby]|with_reducible first|intro _|refine aJ ?_)
  refine⟨.tup [],[(0,.row 8 (l.reverse.map St.cells) g)],1,?_,rfl,rfl,rfl⟩;rw[zEE (by omega)];exact(Ent.tabB [(0,0,0)] [] rfl rfl rfl Qau Qau)
def zfM (ad:Int) (n:Nat) (D:List Bl) (T:Nat→MS):AH:=[(0,.row 2 [[.int .u32 0,.nilsl]] 0),(1,.row 2 [[.int .u32 ad,.own 2 0 0 0 n]] 0),(2,.row 2 (D.map Bl.cells) 0),(3,.row 1 (mps 4 n) 0),(4,famS n T)]
theorem zDF {exit:List Int} {sts:List St} {i:Nat} {a:MS} (h:i < sts.length):keepM exit (sts.drop i) a=if remS sts[i] (keepM exit (sts.drop (i+1)) a).2.keys=true then keepM exit (sts.drop (i+1)) a else (sts[i]::(keepM exit (sts.drop (i+1)) a).1,zek exit sts[i] (keepM exit (sts.drop (i+1)) a).2):=by rw[WF h,keepM]
theorem zBf {α:Type} {f:α→List AV} {A:List α} {a:α} {i:Nat} {c:List AV} {H HH:AH} {σ:Nat→Nat→Option (Nat × Nat × Nat)} {D:Nat→Nat→Prop} (hf:∀a,zM (f a)=true) (hi:i < A.length) (hl:(f a).length=c.length)
  (h:∀(j:Nat) (x y:AV),c[j]? = some x→(f a)[j]? = some y→Vw H HH σ D true x y):RowV H HH σ D ((A.map f).set i c) ((A.set i a).map f):=by
 refine⟨by simp,fun k c2 hk=>?_⟩;rw[List.map_set] at hk
 by_cases hki:i=k
 · subst hki;rw[List.getElem?_set_self (by simpa using hi)] at hk ⊢;cases hk;exact⟨c,rfl,hl,h⟩
 · rw[List.getElem?_set_ne hki] at hk ⊢;refine⟨c2,hk,rfl,fun j x y h1 h2=>?_⟩;rw[h1] at h2;cases h2;obtain⟨b,_,rfl⟩:=WB.1 (List.mem_of_getElem? hk);exact zO (zbf (hf b) h1)
theorem zzg {H HH:AH} {σ:Nat→Nat→Option (Nat × Nat × Nat)} {D:Nat→Nat→Prop} {r:Nat} {kp:List St} {x:Int} (hD:D r 0) (hg:H.get r 0=some (.row 8 (kp.map St.cells) 0)) (hb:kp.length≤big) :
  ∀(j:Nat) (a b:AV),[AV.int .u32 x,.own r 0 0 0 kp.length][j]? = some a→(Bl.cells ⟨x,kp⟩)[j]? = some b→Vw H HH σ D true a b:=by
 intro j a b h1 h2
 match j with
 | 0=>cases h1;cases h2;exact .int _ _ _
 | 1=>cases h1;cases h2;exact zFK hD hg hb
 | j+2=>cases h1
theorem zGx {Q:QT} (ad:Int) (n b:Nat) (hb:b < n) (hn:n≤1000000) (D:List Bl) (hD:D.length=n) (T:Nat→MS) (exit:List Int) (sts:List St) (a0:MS) (r0:Nat) (m0:Bool)
  (hsz:∀s∈sts,zF s.e≤100000) (ha:a0.ok) (h1:a0.1+zbn exit.length sts≤1000000) (h2:a0.2.length+zbn exit.length sts≤1000000) (hlen:sts.length≤1000000) (hr0:r0+sts.length≤2000000)
  (hfin:∀K H nx,Ent 0 K H nx [(1,za exit),(4,.ptr 0 0 0 0 0),(8,.ptr 1 0 0 0 0),(9,.int .i64 ((r0+(sts.length - (keepM exit sts a0).1.length):Nat):Int)),(10,.bool (m0||decide ((keepM exit sts a0).1.length < sts.length))),(12,.own 3 0 0 0 n),(35,.int .i64 n),(36,.int .i64 ((b+1:Nat):Int))]
   (zfM ad n (D.set b ⟨(D[b]'(by omega)).addr,(keepM exit sts a0).1⟩) T) 5→Q .normal K H nx)
  {K:Kn} {H:AH} {nx:Nat} (hent:Ent 0 K H nx [(1,za exit),(4,.ptr 0 0 0 0 0),(8,.ptr 1 0 0 0 0),(9,.int .i64 r0),(10,.bool m0),(12,.own 3 0 0 0 n),(13,.int .i64 b),(14,.mp 5 0),(15,encL 8 St.cells sts),(16,.own 6 0 0 0 0),(17,.int .i64 ((sts.length:Int) - 1)),(35,.int .i64 n),(36,.int .i64 b)]
   (zfM ad n D T++[(5,.row 3 ((setM a0.1 a0.2).map cm) 0),(6,.row 8 [] 0)]) 7) :
  zjG Tryz.prog 0 zdx (zbv 4 (seqQ Tryz.prog 0 zds (zbv 3 (seqQ Tryz.prog 0 zdC Q)))) K H nx:=by
 have hB:=hBig
 have hz:keepM exit (sts.drop sts.length) a0=([],a0):=by rw[List.drop_length];rfl
 have hlk:=fun i=>(zqr (exit:=exit) (e:=a0) (sts.drop i)).length_le
 simp only[List.length_drop] at hlk
 refine zk (fun i:Nat=>([(1,za exit),(4,.ptr 0 0 0 0 0),(8,.ptr 1 0 0 0 0),(9,.int .i64 ((r0+(sts.length - i - (keepM exit (sts.drop i) a0).1.length):Nat):Int)),(10,.bool (m0||decide ((keepM exit (sts.drop i) a0).1.length < sts.length - i))),(12,.own 3 0 0 0 n),(13,.int .i64 b),(14,.mp 5 0),(15,encL 8 St.cells sts),(16,.own 6 0 0 0 (keepM exit (sts.drop i) a0).1.length),(17,.int .i64 ((i:Int) - 1)),(35,.int .i64 n),(36,.int .i64 b)],
   zfM ad n D T++[(5,.row 3 ((setM (keepM exit (sts.drop i) a0).2.1 (keepM exit (sts.drop i) a0).2.2).map cm) 0),(6,.row 8 ((keepM exit (sts.drop i) a0).1.reverse.map St.cells) 0)])) 7
  (fun i=>i≤sts.length) (fun i=>i) sts.length (Wh _) ?_ ?_
 · rw[hz];simp only[Wk,WC,Nat.lt_irrefl,decide_false,Bool.or_false,Nat.add_zero,List.reverse_nil,Wo];exact hent
 rintro i hi wf;unfold zdx;have hc:=zoU (k:=exit.length) (l:=sts) (i:=i);obtain⟨k1,k2,k3⟩:=zyk (exit:=exit) (l:=sts.drop i) ha (by omega) (by omega);have hli:=hlk i
 rcases Nat.eq_zero_or_pos i with rfl|hp
 ·
  rw[List.drop_zero] at *;generalize keepM exit sts a0=R at *;obtain⟨kp,a⟩:=R;simp only[Nat.sub_zero] at *;have hrl:kp.reverse.length=kp.length:=WL;have hrr:kp.reverse.reverse=kp:=List.reverse_reverse kp
  have hbD:b < D.length:=by omega
  have hrev:=znB kp.reverse 0 (by omega);rw[hrl,hrr] at hrev
  (repeat first|simp(disch:=try exact dis1) only[evD,Nat.reduceBEq,Nat.reduceAdd,Nat.reduceLeDiff,dF,Int.natCast_zero,zfM,Wi,Wj]|with_reducible first|intro _|refine aJ ?_)
  unfold zds
  (refine Qa ?_;intros)
  refine z6 [(0,6,0)] 1 _ (hrev) rfl rfl fin8 fin8 ?_;rintro _ _ _ ⟨rfl,rfl,rfl⟩;have hg:(D.map Bl.cells).getD b []=[.int .u32 D[b].addr,encL 8 St.cells D[b].stmts]:=zq (f:=Bl.cells) (d:=[]) hbD
  have hsp:∀x y z:AV,splice [x,y] 1 [z]=[x,z]:=fun _ _ _=>rfl
  (repeat first|simp(disch:=try exact dis1) only[evD,Nat.reduceBEq,Nat.reduceAdd,Nat.reduceLeDiff,renS,hg,hsp]|with_reducible first|intro _|refine aJ ?_)
  unfold zdC
  (refine Qa ?_;intros)
  refine hfin _ _ _ ?_;refine Ent.tab [(0,0,0),(1,1,0),(2,2,0),(3,3,0),(4,4,0)] [6] rfl ?_ ?_
  · ((try simp only[evWB,Nat.reduceBEq,Nat.reduceAdd,Nat.reduceSub,Nat.reduceLeDiff,Nat.reduceLT,implies_true,zfM,famS])<;>((repeat' with_reducible apply Wp)<;>first|omega|rfl | (exact zBf (fun _=>rfl) hbD rfl (zzg rfl rfl (by omega));done) | (refine zL zW (by decide) ⟨rfl,rfl⟩ ?_;(try simp only[evWB,Nat.reduceBEq,Nat.reduceAdd,Nat.reduceSub,Nat.reduceLeDiff,Nat.reduceLT,implies_true,zfM,famS])<;>((repeat' with_reducible apply Wp)<;>first|omega|rfl | (refine zL zW (by decide) ⟨rfl,rfl⟩ ?_;(try simp only[evWB,Nat.reduceBEq,Nat.reduceAdd,Nat.reduceSub,Nat.reduceLeDiff,Nat.reduceLT,implies_true,zfM,famS])<;>((repeat' with_reducible apply Wp)<;>first|omega|rfl|exact ziN (fun _=>rfl)|exact Vw.it _ _ rfl|exact Vw.mp _ _ _ _ rfl|exact zL zW (by decide) ⟨rfl,rfl⟩ trivial|exact zL zW (by decide) (fun _ _=>⟨rfl,rfl⟩) trivial | (refine zly rfl ?_;(repeat' (first|exact zj zW|exact zaz|exact zj (fun _=>rfl)|exact zj (fun _=>zn)|exact zj (fun _=>zb)|exact zx zn|exact zx zb|exact zaC rfl|exact zaj|exact zx rfl|refine zag ?_ ?_|refine zm rfl ?_|refine zm zn ?_|refine zm zb ?_));done)|exact zcU rfl | (refine RowV.of_flat ?_;(repeat' (first|exact zj zW|exact zaz|exact zj (fun _=>rfl)|exact zj (fun _=>zn)|exact zj (fun _=>zb)|exact zx zn|exact zx zb|exact zaC rfl|exact zaj|exact zx rfl|refine zag ?_ ?_|refine zm rfl ?_|refine zm zn ?_|refine zm zb ?_));done) | ((repeat' (first|exact zj zW|exact zaz|exact zj (fun _=>rfl)|exact zj (fun _=>zn)|exact zj (fun _=>zb)|exact zx zn|exact zx zb|exact zaC rfl|exact zaj|exact zx rfl|refine zag ?_ ?_|refine zm rfl ?_|refine zm zn ?_|refine zm zb ?_));done)|exact zhk rfl rfl (by omega)|exact zbQ rfl rfl (by omega)|exact zeP rfl rfl (by omega)|exact zhs (fun _=>rfl)|exact zL (fun _=>rfl) (by decide) ⟨rfl,rfl⟩ trivial|exact zL (fun _=>rfl) (by decide) (fun _ _=>⟨rfl,rfl⟩) trivial | (simp;done));done)|exact ziN (fun _=>rfl)|exact Vw.it _ _ rfl|exact Vw.mp _ _ _ _ rfl|exact zL zW (by decide) ⟨rfl,rfl⟩ trivial|exact zL zW (by decide) (fun _ _=>⟨rfl,rfl⟩) trivial | (refine zly rfl ?_;(repeat' (first|exact zj zW|exact zaz|exact zj (fun _=>rfl)|exact zj (fun _=>zn)|exact zj (fun _=>zb)|exact zx zn|exact zx zb|exact zaC rfl|exact zaj|exact zx rfl|refine zag ?_ ?_|refine zm rfl ?_|refine zm zn ?_|refine zm zb ?_));done)|exact zcU rfl | (refine RowV.of_flat ?_;(repeat' (first|exact zj zW|exact zaz|exact zj (fun _=>rfl)|exact zj (fun _=>zn)|exact zj (fun _=>zb)|exact zx zn|exact zx zb|exact zaC rfl|exact zaj|exact zx rfl|refine zag ?_ ?_|refine zm rfl ?_|refine zm zn ?_|refine zm zb ?_));done) | ((repeat' (first|exact zj zW|exact zaz|exact zj (fun _=>rfl)|exact zj (fun _=>zn)|exact zj (fun _=>zb)|exact zx zn|exact zx zb|exact zaC rfl|exact zaj|exact zx rfl|refine zag ?_ ?_|refine zm rfl ?_|refine zm zn ?_|refine zm zb ?_));done)|exact zhk rfl rfl (by omega)|exact zbQ rfl rfl (by omega)|exact zeP rfl rfl (by omega)|exact zhs (fun _=>rfl)|exact zL (fun _=>rfl) (by decide) ⟨rfl,rfl⟩ trivial|exact zL (fun _=>rfl) (by decide) (fun _ _=>⟨rfl,rfl⟩) trivial | (simp;done));done)|exact ziN (fun _=>rfl)|exact Vw.it _ _ rfl|exact Vw.mp _ _ _ _ rfl|exact zL zW (by decide) ⟨rfl,rfl⟩ trivial|exact zL zW (by decide) (fun _ _=>⟨rfl,rfl⟩) trivial | (refine zly rfl ?_;(repeat' (first|exact zj zW|exact zaz|exact zj (fun _=>rfl)|exact zj (fun _=>zn)|exact zj (fun _=>zb)|exact zx zn|exact zx zb|exact zaC rfl|exact zaj|exact zx rfl|refine zag ?_ ?_|refine zm rfl ?_|refine zm zn ?_|refine zm zb ?_));done)|exact zcU rfl | (refine RowV.of_flat ?_;(repeat' (first|exact zj zW|exact zaz|exact zj (fun _=>rfl)|exact zj (fun _=>zn)|exact zj (fun _=>zb)|exact zx zn|exact zx zb|exact zaC rfl|exact zaj|exact zx rfl|refine zag ?_ ?_|refine zm rfl ?_|refine zm zn ?_|refine zm zb ?_));done) | ((repeat' (first|exact zj zW|exact zaz|exact zj (fun _=>rfl)|exact zj (fun _=>zn)|exact zj (fun _=>zb)|exact zx zn|exact zx zb|exact zaC rfl|exact zaj|exact zx rfl|refine zag ?_ ?_|refine zm rfl ?_|refine zm zn ?_|refine zm zb ?_));done)|exact zhk rfl rfl (by omega)|exact zbQ rfl rfl (by omega)|exact zeP rfl rfl (by omega)|exact zhs (fun _=>rfl)|exact zL (fun _=>rfl) (by decide) ⟨rfl,rfl⟩ trivial|exact zL (fun _=>rfl) (by decide) (fun _ _=>⟨rfl,rfl⟩) trivial | (simp;done)))
  · ((try simp only[evWB,Nat.reduceBEq,Nat.reduceAdd,Nat.reduceSub,Nat.reduceLeDiff,Nat.reduceLT,implies_true,zfM])<;>((repeat' with_reducible apply Wp)<;>first|omega|rfl | (rfl;done) | (refine zL zW (by decide) ⟨rfl,rfl⟩ ?_;(try simp only[evWB,Nat.reduceBEq,Nat.reduceAdd,Nat.reduceSub,Nat.reduceLeDiff,Nat.reduceLT,implies_true,zfM])<;>((repeat' with_reducible apply Wp)<;>first|omega|rfl | (refine zL zW (by decide) ⟨rfl,rfl⟩ ?_;(try simp only[evWB,Nat.reduceBEq,Nat.reduceAdd,Nat.reduceSub,Nat.reduceLeDiff,Nat.reduceLT,implies_true,zfM])<;>((repeat' with_reducible apply Wp)<;>first|omega|rfl|exact ziN (fun _=>rfl)|exact Vw.it _ _ rfl|exact Vw.mp _ _ _ _ rfl|exact zL zW (by decide) ⟨rfl,rfl⟩ trivial|exact zL zW (by decide) (fun _ _=>⟨rfl,rfl⟩) trivial | (refine zly rfl ?_;(repeat' (first|exact zj zW|exact zaz|exact zj (fun _=>rfl)|exact zj (fun _=>zn)|exact zj (fun _=>zb)|exact zx zn|exact zx zb|exact zaC rfl|exact zaj|exact zx rfl|refine zag ?_ ?_|refine zm rfl ?_|refine zm zn ?_|refine zm zb ?_));done)|exact zcU rfl | (refine RowV.of_flat ?_;(repeat' (first|exact zj zW|exact zaz|exact zj (fun _=>rfl)|exact zj (fun _=>zn)|exact zj (fun _=>zb)|exact zx zn|exact zx zb|exact zaC rfl|exact zaj|exact zx rfl|refine zag ?_ ?_|refine zm rfl ?_|refine zm zn ?_|refine zm zb ?_));done) | ((repeat' (first|exact zj zW|exact zaz|exact zj (fun _=>rfl)|exact zj (fun _=>zn)|exact zj (fun _=>zb)|exact zx zn|exact zx zb|exact zaC rfl|exact zaj|exact zx rfl|refine zag ?_ ?_|refine zm rfl ?_|refine zm zn ?_|refine zm zb ?_));done)|exact zhk rfl rfl (by omega)|exact zbQ rfl rfl (by omega)|exact zeP rfl rfl (by omega)|exact zhs (fun _=>rfl)|exact zL (fun _=>rfl) (by decide) ⟨rfl,rfl⟩ trivial|exact zL (fun _=>rfl) (by decide) (fun _ _=>⟨rfl,rfl⟩) trivial | (simp;done));done)|exact ziN (fun _=>rfl)|exact Vw.it _ _ rfl|exact Vw.mp _ _ _ _ rfl|exact zL zW (by decide) ⟨rfl,rfl⟩ trivial|exact zL zW (by decide) (fun _ _=>⟨rfl,rfl⟩) trivial | (refine zly rfl ?_;(repeat' (first|exact zj zW|exact zaz|exact zj (fun _=>rfl)|exact zj (fun _=>zn)|exact zj (fun _=>zb)|exact zx zn|exact zx zb|exact zaC rfl|exact zaj|exact zx rfl|refine zag ?_ ?_|refine zm rfl ?_|refine zm zn ?_|refine zm zb ?_));done)|exact zcU rfl | (refine RowV.of_flat ?_;(repeat' (first|exact zj zW|exact zaz|exact zj (fun _=>rfl)|exact zj (fun _=>zn)|exact zj (fun _=>zb)|exact zx zn|exact zx zb|exact zaC rfl|exact zaj|exact zx rfl|refine zag ?_ ?_|refine zm rfl ?_|refine zm zn ?_|refine zm zb ?_));done) | ((repeat' (first|exact zj zW|exact zaz|exact zj (fun _=>rfl)|exact zj (fun _=>zn)|exact zj (fun _=>zb)|exact zx zn|exact zx zb|exact zaC rfl|exact zaj|exact zx rfl|refine zag ?_ ?_|refine zm rfl ?_|refine zm zn ?_|refine zm zb ?_));done)|exact zhk rfl rfl (by omega)|exact zbQ rfl rfl (by omega)|exact zeP rfl rfl (by omega)|exact zhs (fun _=>rfl)|exact zL (fun _=>rfl) (by decide) ⟨rfl,rfl⟩ trivial|exact zL (fun _=>rfl) (by decide) (fun _ _=>⟨rfl,rfl⟩) trivial | (simp;done));done)|exact ziN (fun _=>rfl)|exact Vw.it _ _ rfl|exact Vw.mp _ _ _ _ rfl|exact zL zW (by decide) ⟨rfl,rfl⟩ trivial|exact zL zW (by decide) (fun _ _=>⟨rfl,rfl⟩) trivial | (refine zly rfl ?_;(repeat' (first|exact zj zW|exact zaz|exact zj (fun _=>rfl)|exact zj (fun _=>zn)|exact zj (fun _=>zb)|exact zx zn|exact zx zb|exact zaC rfl|exact zaj|exact zx rfl|refine zag ?_ ?_|refine zm rfl ?_|refine zm zn ?_|refine zm zb ?_));done)|exact zcU rfl | (refine RowV.of_flat ?_;(repeat' (first|exact zj zW|exact zaz|exact zj (fun _=>rfl)|exact zj (fun _=>zn)|exact zj (fun _=>zb)|exact zx zn|exact zx zb|exact zaC rfl|exact zaj|exact zx rfl|refine zag ?_ ?_|refine zm rfl ?_|refine zm zn ?_|refine zm zb ?_));done) | ((repeat' (first|exact zj zW|exact zaz|exact zj (fun _=>rfl)|exact zj (fun _=>zn)|exact zj (fun _=>zb)|exact zx zn|exact zx zb|exact zaC rfl|exact zaj|exact zx rfl|refine zag ?_ ?_|refine zm rfl ?_|refine zm zn ?_|refine zm zb ?_));done)|exact zhk rfl rfl (by omega)|exact zbQ rfl rfl (by omega)|exact zeP rfl rfl (by omega)|exact zhs (fun _=>rfl)|exact zL (fun _=>rfl) (by decide) ⟨rfl,rfl⟩ trivial|exact zL (fun _=>rfl) (by decide) (fun _ _=>⟨rfl,rfl⟩) trivial | (simp;done)))
 ·
  obtain⟨i,rfl⟩:∃k,i=k+1:=⟨i - 1,by omega⟩
  have hil:i < sts.length:=by omega
  have hgl:=zq (f:=St.cells) (d:=[]) hil
  have ei:((i+1:Nat):Int) - 1=i:=by omega
  have hat:=zDF (exit:=exit) (a:=a0) hil;have hl0:=hlk i;have hci:=zrI (k:=exit.length) hil;have hc0:=zoU (k:=exit.length) (l:=sts) (i:=i);have hrem:=zjF sts[i] (keepM exit (sts.drop (i+1)) a0).2;have hbk:=ziX (keepM exit (sts.drop (i+1)) a0).2 sts[i] exit k1 (hsz _ (Wa hil)) (by omega) (by omega);generalize keepM exit (sts.drop (i+1)) a0=R at *;obtain⟨kp,a⟩:=R;simp only at hrem hbk hli k1 k2 k3 hat
  (repeat first|simp(disch:=try exact dis1) only[evD,Nat.reduceBEq,Nat.reduceAdd,Nat.reduceLeDiff,ei,dT,zfM,Wi,Wj,hgl,St.len,St.eight]|with_reducible first|intro _|refine aJ ?_)
  refine z6 [(0,5,0)] 1 _ (hrem) rfl rfl fin8 fin8 ?_;rintro _ _ _ ⟨rfl,rfl,rfl⟩
  cases hx:remS sts[i] a.keys with
  |
   true =>
   rw[hx,if_pos rfl] at hat
   have hbt:(m0||decide (kp.length < sts.length - i))=true:=by rw[decide_eq_true (by omega)];simp
   (refine QJ ?_;intros)
   refine⟨i,by omega,by omega,?_⟩;exact(Ent.tab [(0,0,0),(1,1,0),(2,2,0),(3,3,0),(4,4,0),(5,5,0),(6,6,0)] [] rfl (by(try simp only[evWB,Nat.reduceBEq,Nat.reduceAdd,Nat.reduceSub,Nat.reduceLeDiff,Nat.reduceLT,implies_true,zfM,famS,hat,hbt,Wi,Wj])<;>exact fin8) (by(try simp only[evWB,Nat.reduceBEq,Nat.reduceAdd,Nat.reduceSub,Nat.reduceLeDiff,Nat.reduceLT,implies_true,zfM,famS,hat,hbt,Wi,Wj])<;>exact fin8))
  |
   false =>
   rw[hx,if_neg (by simp)] at hat
   (repeat first|simp(disch:=try exact dis1) only[evD,Nat.reduceBEq,Nat.reduceAdd,Nat.reduceLeDiff,renM,hgl,St.len,St.eight]|with_reducible first|intro _|refine aJ ?_)
   refine z6 [(0,5,0)] 1 _ (hbk) rfl rfl fin8 fin8 ?_;rintro _ _ _ ⟨rfl,rfl,rfl⟩;have hkl:kp.reverse.length=kp.length:=WL;have htk:(kp.reverse.map St.cells).take kp.length=kp.reverse.map St.cells:=Wl (by rw[We,hkl];omega);have hbt:decide (kp.length+1 < sts.length - i)=decide (kp.length < sts.length - (i+1)):=decide_eq_decide.2 (by omega)
   (repeat first|simp(disch:=try exact dis1) only[evD,Nat.reduceBEq,Nat.reduceAdd,Nat.reduceLeDiff,renM,hgl,St.len,St.eight,hkl,htk]|with_reducible first|intro _|refine aJ ?_)
   refine⟨i,by omega,by omega,?_⟩;exact(Ent.tab [(0,0,0),(1,1,0),(2,2,0),(3,3,0),(4,4,0),(5,5,0),(6,6,1)] [] rfl (by(try simp only[evWB,Nat.reduceBEq,Nat.reduceAdd,Nat.reduceSub,Nat.reduceLeDiff,Nat.reduceLT,implies_true,zfM,famS,hat,hbt,Wi,Wj,Ww,WM,Wn,Wf,Wo])<;>exact fin8) (by(try simp only[evWB,Nat.reduceBEq,Nat.reduceAdd,Nat.reduceSub,Nat.reduceLeDiff,Nat.reduceLT,implies_true,zfM,famS,hat,hbt,Wi,Wj,Ww,WM,Wn,Wf,Wo])<;>exact fin8))
def zbR (exit:List Int) (bl:List Bl) (i:Nat):List Bl:=bl.mapIdx fun j b=>if j < i then blkD exit bl j b else b
theorem zeD {exit:List Int} {bl:List Bl} {i:Nat}:(zbR exit bl i).length=bl.length:=by simp[zbR]
theorem zwi {exit:List Int} {bl:List Bl}:zbR exit bl 0=bl:=by
 apply WD
 · exact zeD
 · intro k h1 h2;simp[zbR]
theorem zxb {exit:List Int} {bl:List Bl}:zbR exit bl bl.length=zcY exit bl:=by
 apply WD
 · rw[zeD,zkz]
 · intro k h1 h2;rw[zeD] at h1;simp[zbR,zcY,h1]
theorem zzb {exit:List Int} {bl:List Bl} {i:Nat} (h:i < bl.length):(zbR exit bl i)[i]'(by rw[zeD];exact h)=bl[i]:=by simp[zbR]
theorem zzf {exit:List Int} {bl:List Bl} {i:Nat} (h:i < bl.length):(zbR exit bl i).set i ⟨bl[i].addr,(zm0 exit bl[i].stmts (zaD exit bl i)).1⟩=zbR exit bl (i+1):=by
 apply WD
 · simp[zbR]
 ·
  intro k h1 h2;rw[zeD] at h2;rw[List.getElem_set]
  by_cases hk:i=k
  · subst hk;simp[zbR,blkD]
  ·
   rw[if_neg hk];simp only[zbR,WN]
   by_cases hl:k < i
   · rw[if_pos hl,if_pos (by omega)]
   · rw[if_neg hl,if_neg (by omega)]
theorem zsp {exit:List Int} {bl:List Bl} {i:Nat}:SubB (zbR exit bl i) bl:=by
 refine⟨zeD,fun k h1 h2=>?_⟩;simp only[zbR,WN];split
 · exact⟨rfl,zjT _⟩
 · exact⟨rfl,List.Sublist.refl _⟩
theorem zrC {b:Bl}:∀ {l:List Bl} {i:Nat} (h:i < l.length),zJ (l.set i b)+l[i].stmts.length=zJ l+b.stmts.length
 | x::l,0,h=>by simp only[zJ,List.set_cons_zero,Wf,Wr,WA];omega
 |
  x::l,i+1,h=>by
  have:=zrC (b:=b) (l:=l) (i:=i) (by simpa using h);simp only[zJ,List.set_cons_succ,Wf,Wr,List.getElem_cons_succ] at *;omega
theorem zzs {exit:List Int} {x:List Bl}:zro exit x=if zJ (zcY exit x)=zJ x then x else zro exit (zcY exit x):=by
 unfold zro;rw[zvu];split
 · rfl
 · have:=(zdS (exit:=exit) (bl:=x)).count;exact zr7 _ _ _ (by omega) (by omega)
theorem Qbt {p:Prop}(h:p:=by(try simp only[evWB,Nat.reduceBEq,Nat.reduceAdd,Nat.reduceSub,Nat.reduceLeDiff,Nat.reduceLT,implies_true,zfM,famS,List.cons_append,List.nil_append])<;>exact fin8):p:=h
theorem Qbu {p:Prop}(h:p:=by(try simp only[evWB,Nat.reduceBEq,Nat.reduceAdd,Nat.reduceSub,Nat.reduceLeDiff,Nat.reduceLT,implies_true,zfM,famS,za])<;>exact fin8):p:=h
theorem zGf {Q:QT} (ad:Int) (bl:List Bl) (exit U:List Int) (hU:GoodB U exit bl) (S T:Nat→MS) (hE:EndB U exit bl S T) (r0:Nat) (hr0:r0+zJ bl≤1000000)
  (hfin:∀K H nx,Ent 0 K H nx [(1,za exit),(4,.ptr 0 0 0 0 0),(8,.ptr 1 0 0 0 0),(9,.int .i64 ((r0+(zJ bl - zJ (zcY exit bl)):Nat):Int)),(10,.bool (decide (zJ (zcY exit bl) < zJ bl)))]
   [(0,.row 2 [[.int .u32 0,.nilsl]] 0),(1,.row 2 [[.int .u32 ad,.own 2 0 0 0 bl.length]] 0),(2,.row 2 ((zcY exit bl).map Bl.cells) 0)] 3→Q .normal K H nx)
  {K:Kn} {H:AH} {nx:Nat} (hent:Ent 0 K H nx [(1,za exit),(4,.ptr 0 0 0 0 0),(8,.ptr 1 0 0 0 0),(9,.int .i64 r0),(10,.bool false),(12,.own 3 0 0 0 bl.length),(35,.int .i64 bl.length),(36,.int .i64 0)] (zfM ad bl.length bl T) 5) :
  zjG Tryz.prog 0 zdD (zbv 2 Q) K H nx:=by
 have hB:=hBig;have hlen:=hU.len
 refine zk (fun i:Nat=>([(1,za exit),(4,.ptr 0 0 0 0 0),(8,.ptr 1 0 0 0 0),(9,.int .i64 ((r0+(zJ bl - zJ (zbR exit bl i)):Nat):Int)),(10,.bool (decide (zJ (zbR exit bl i) < zJ bl))),(12,.own 3 0 0 0 bl.length),(35,.int .i64 bl.length),(36,.int .i64 i)],zfM ad bl.length (zbR exit bl i) T)) 5
  (fun i=>i≤bl.length) (fun i=>bl.length - i) 0 (Wd _) ?_ ?_
 · rw[zwi];simp only[WC,Nat.lt_irrefl,decide_false,Nat.add_zero];exact hent
 rintro i hi wf;unfold zdD
 by_cases hil:i < bl.length
 ·
  have hm:=Wa hil;have hDl:=zeD (exit:=exit) (bl:=bl) (i:=i);have hDi:=zzb (exit:=exit) hil;have hDs:=zzf (exit:=exit) hil;have hDc:=(zsp (exit:=exit) (bl:=bl) (i:=i)).count;have hcs:=zrC (b:=⟨bl[i].addr,(zm0 exit bl[i].stmts (zaD exit bl i)).1⟩) (l:=zbR exit bl i) (i:=i) (by omega);rw[hDs,hDi] at hcs;simp only at hcs;have hDc1:=(zsp (exit:=exit) (bl:=bl) (i:=i+1)).count;have hT:=hE.t i;have hTl:=hT.len;have hks:zcI ((T i).2.map (·.1))=zaD exit bl i:=hE.keyT hil
  have hkl:(zaD exit bl i).length=(T i).2.length:=by rw[←hks,(zam _).length_eq,We]
  have hcost:=hU.cost _ hm;have hok:(addL (0,[]) (zaD exit bl i)).ok:=zl2 zpf (by simp only;omega) (by simp only[Wk];omega);have hbd:=zdQ (l:=zaD exit bl i) (s:=(0,[]));simp only[Wk] at hbd
  have hkeys:∀x,x∈(addL (0,[]) (zaD exit bl i)).keys↔x∈zaD exit bl i:=fun x=>by rw[zeM];simp[MS.keys]
  obtain⟨hkp,_⟩:=zuU (exit:=exit) hkeys bl[i].stmts;have hll:=(zjT (exit:=exit) (e:=zaD exit bl i) bl[i].stmts).length_le;have hstl:=zkF hm
  have hl0:=fun(Q:QT)=>zGx (Q:=Q) ad bl.length i hil hlen (zbR exit bl i) hDl T exit bl[i].stmts (addL (0,[]) (zaD exit bl i)) (r0+(zJ bl - zJ (zbR exit bl i))) (decide (zJ (zbR exit bl i) < zJ bl)) (fun s hs=>(hU.hsz _ hm s hs).1) hok (by omega) (by omega) (by omega) (by omega)
  simp only[hDi] at hl0;rw[hkp,hDs] at hl0
  have hg:((zbR exit bl i).map Bl.cells).getD i []=[.int .u32 bl[i].addr,encL 8 St.cells bl[i].stmts]:=by have:=zq (f:=Bl.cells) (d:=[]) (l:=zbR exit bl i) (i:=i) (by omega);rw[hDi] at this;exact this
  have hDml:((zbR exit bl i).map Bl.cells).length=bl.length:=by rw[We,hDl]
  have hsa:=zhP (0,[]) (zaD exit bl i) zpf (by simp only;omega) (by simp only[Wk];omega);generalize addL (0,[]) (zaD exit bl i)=a0 at *;generalize zaD exit bl i=lo at *;clear hDi hDs hDl;generalize hD:zbR exit bl i=D at *
  (repeat first|simp(disch:=try exact dis1) only[evD,Nat.reduceBEq,Nat.reduceAdd,Nat.reduceLeDiff,dT,zfM,za,zhn,zfe hil]|with_reducible first|intro _|refine aJ ?_)
  refine z6 [(0,4,0)] 1 _ (zcv bl.length i hil T hT.ok) rfl rfl Qaw Qaw ?_;rintro _ _ _ ⟨rfl,rfl,rfl⟩
  (repeat first|simp(disch:=try exact dis1) only[evD,Nat.reduceBEq,Nat.reduceAdd,Nat.reduceLeDiff,renE,renF,hks,za,zhn,zfe hil]|with_reducible first|intro _|refine aJ ?_)
  refine z6 [(0,5,0)] 1 _ (hsa) rfl rfl Qba Qba ?_;rintro _ _ _ ⟨rfl,rfl,rfl⟩
  (repeat first|simp(disch:=try exact dis1) only[evD,Nat.reduceBEq,Nat.reduceAdd,Nat.reduceLeDiff,renM,za,hg,hDml]|with_reducible first|intro _|refine aJ ?_)
  refine hl0 _ ?_ ?_
  ·
   intro K2 H2 nx2 he;refine⟨i+1,by omega,by show bl.length - (i+1) < bl.length - i;omega,?_⟩
   have e1:r0+(zJ bl - zJ D)+(bl[i].stmts.length - (zm0 exit bl[i].stmts lo).1.length)=r0+(zJ bl - zJ (zbR exit bl (i+1))):=by omega
   have e2:(decide (zJ D < zJ bl)||decide ((zm0 exit bl[i].stmts lo).1.length < bl[i].stmts.length))=decide (zJ (zbR exit bl (i+1)) < zJ bl):=by rw[←Bool.decide_or];exact decide_eq_decide.2 (by omega)
   rw[e1,e2] at he;exact he
  · exact(Ent.tab [(0,0,0),(1,1,0),(2,2,0),(3,3,0),(4,4,0),(5,5,0),(6,8,0)] [] rfl Qbt Qbt)
 ·
  obtain rfl:i=bl.length:=by omega
  rw[zxb]
  (refine Qg ?_;intros)
  refine hfin _ _ _ ?_;exact(Ent.tab [(0,0,0),(1,1,0),(2,2,0)] [] rfl Qbu Qbu)
theorem zyq {F n g:Nat}:AObj.refs (.row 1 (mps F n) g):=by intro c hc;obtain⟨i,_,rfl⟩:=WB.1 hc;rfl
theorem zF9 (a:MC):(cm a).all AV.ref0=true:=by
 unfold cm
 split<;>rfl
theorem zuq {n:Nat} {S:Nat→MS}:AObj.refs (famS n S):=by intro p hp;unfold fi at hp;obtain⟨i,_,rfl⟩:=WB.1 hp;exact zEz zF9
theorem zE2 {n:Nat} {S T:Nat→MS}:AH.refs (bdH n S T):=⟨zyq,zyq,zuq,zuq,trivial⟩
structure RunD (U exit:List Int) (bl0 R x:List Bl) (m:Bool):Prop where
 good:GoodB U exit x
 len:x.length=bl0.length
 cnt:zJ x≤zJ bl0
 go:zro exit x=R
 done:m=false→x=R
theorem RunD.next {U exit:List Int} {bl0 R x:List Bl} (h:RunD U exit bl0 R x true) :
  RunD U exit bl0 R (zcY exit x) (decide (zJ (zcY exit x) < zJ x))∧2 * zJ (zcY exit x)+(bif decide (zJ (zcY exit x) < zJ x) then 1 else 0) < 2 * zJ x+(bif true then 1 else 0):=by
 have hc:=(zdS (exit:=exit) (bl:=x)).count;have hg:=h.go;have hn:=h.cnt;rw[zzs] at hg;refine⟨⟨h.good.sub zdS,by rw[zkz];exact h.len,by omega,?_,fun hm=>?_⟩,?_⟩
 ·
  split at hg
  · rename_i he;rw[zdS.same he];exact h.go
  · exact hg
 · have hm:=of_decide_eq_false hm;rw[if_pos (by omega)] at hg;rw[zdS.same (by omega)];exact hg
 ·
  by_cases hlt:zJ (zcY exit x) < zJ x
  · rw[decide_eq_true hlt];simp only[cond_true];omega
  · rw[decide_eq_false hlt];simp only[cond_true,cond_false];omega
theorem Qbv {p:Prop}(h:p:=by(try simp only[evWB,Nat.reduceBEq,Nat.reduceAdd,Nat.reduceSub,Nat.reduceLeDiff,Nat.reduceLT,implies_true,zfM,famS])<;>exact fin8):p:=h
theorem zGV {Q:QT} (ad:Int) (bl0 R:List Bl) (exit U:List Int)
  (hcnt:zJ bl0≤1000000)
  (hfin:wpX Tryz.prog 0 zca Q [(4,.ptr 0 0 0 0 0),(8,.ptr 1 0 0 0 0),(9,.int .i64 ((zJ bl0 - zJ R:Nat):Int)),(26,.bool false)]
   [(0,.row 2 [[.int .u32 0,.nilsl]] 0),(1,.row 2 [[.int .u32 ad,.own 2 0 0 0 bl0.length]] 0),(2,.row 2 (R.map Bl.cells) 0)] 3)
  {K:Kn} {H:AH} {nx:Nat} (hrun:RunD U exit bl0 R bl0 true) (hent:Ent 0 K H nx [(1,za exit),(4,.ptr 0 0 0 0 0),(8,.ptr 1 0 0 0 0),(9,.int .i64 0),(10,.bool true)]
   [(0,.row 2 [[.int .u32 0,.nilsl]] 0),(1,.row 2 [[.int .u32 ad,.own 2 0 0 0 bl0.length]] 0),(2,.row 2 (bl0.map Bl.cells) 0)] 3) :
  zjG Tryz.prog 0 zdy (zbv 0 (seqQ Tryz.prog 0 zca Q)) K H nx:=by
 have hB:=hBig
 refine zk (fun a:List Bl × Bool=>([(1,za exit),(4,.ptr 0 0 0 0 0),(8,.ptr 1 0 0 0 0),(9,.int .i64 ((zJ bl0 - zJ a.1:Nat):Int)),(10,.bool a.2)],
   [(0,.row 2 [[.int .u32 0,.nilsl]] 0),(1,.row 2 [[.int .u32 ad,.own 2 0 0 0 bl0.length]] 0),(2,.row 2 (a.1.map Bl.cells) 0)])) 3
  (fun a=>RunD U exit bl0 R a.1 a.2) (fun a=>2 * zJ a.1+(bif a.2 then 1 else 0)) (bl0,true) hrun ?_ ?_
 · simp only[WC];exact hent
 rintro⟨x,m⟩ hrn wf;simp only at hrn;unfold zdy
 cases m with
 |
  false =>
  obtain rfl:=hrn.done rfl
  (refine Qa ?_;intros)
  exact hfin
 |
  true =>
  obtain⟨n1,n2⟩:=hrn.next;have hxl:=hrn.len;have hxc:=hrn.cnt;have hbd:=zl7 ⟨ad,x⟩ exit U hrn.good.univ;have hxb:=hrn.good.len;have hml:(x.map Bl.cells).length=x.length:=We _
  (refine Qa ?_;intros)
  refine zzA (D:=inD [2]) hbd (.cons (.agg _ _ _ rfl (fun j a c h1 h2=>?_)) (.cons (zaq rfl) .nil)) ?_ ?_
  ·
   match j with
   | 0=>cases h1;cases h2;exact .int _ _ _
   | 1=>cases h1;cases h2;rw[←hxl];exact zBZ rfl rfl (by omega)
   | j+2=>cases h1
  · rintro _ _ _ ⟨S,T,rfl,rfl,rfl,_⟩;exact⟨rfl,zE2⟩
  rintro _ _ _ ⟨S,T,rfl,rfl,rfl,hend⟩;simp only at hend
  (refine Qag ?_;intros)
  refine zGf ad x exit U hrn.good S T hend (zJ bl0 - zJ x) (by omega) ?_ ?_
  ·
   intro K2 H2 nx2 he;refine⟨(zcY exit x,_),n1,n2,?_⟩;have hc:=(zdS (exit:=exit) (bl:=x)).count
   have e1:zJ bl0 - zJ x+(zJ x - zJ (zcY exit x))=zJ bl0 - zJ (zcY exit x):=by omega
   rw[e1,hxl] at he;exact he
  · rw[hxl];exact(Ent.tab [(0,0,0),(1,1,0),(2,2,0),(3,4,0),(4,6,0)] [] rfl Qbv Qbv)
def zE3 (g:G) (exit:List Int):AV:=if zfE g=0 then .tup [.agg (G.cells ⟨g.addr,zro exit g.blocks⟩),.int .i64 ((zJ g.blocks - zJ (zro exit g.blocks):Nat):Int),.int .i64 0] else .tup [.agg (G.cells ⟨0,[]⟩),.int .i64 0,.int .i64 (zfE g)]
theorem zBJ {exit:List Int} {bl:List Bl}:(zro exit bl).length=bl.length:=(zuE _ _).1
theorem zi2 (g:G) (exit U:List Int) (hU:GoodB U exit g.blocks) (hf:fewB g):zu Tryz.prog zed [.agg g.cells,za exit] (·=zE3 g exit):=by
 refine fn_x zow rfl ?_;unfold zjb zE3;have hB:=hBig;have hcg:=zoD g hf (fun b hb s hs=>by have:=(hU.hsz b hb s hs).2;omega);have hcp:=zCk g hU.len (fun b hb=>Wu (zkF hb) hU.cnt) (fun b hb s hs=>⟨(hU.hsz b hb s hs).1,by have:=(hU.hsz b hb s hs).2;omega⟩);have hpl:=zBJ (exit:=exit) (bl:=g.blocks);have hlen:=hU.len;have hcnt:=hU.cnt;obtain⟨ad,bl⟩:=g;simp only[G.cells] at hcg hcp hpl hU hlen hcnt ⊢
 (refine QG ?_;intros)
 refine ze (zd hcg rfl) ?_
 by_cases hc:zfE ⟨ad,bl⟩=0
 ·
  rw[if_pos hc,hc]
  (repeat first|simp(disch:=try exact dis1) only[evD,Nat.reduceBEq,Nat.reduceAdd,Nat.reduceLeDiff,dF,fldP,za,zad,tab,WG,WH]|with_reducible first|intro _|refine aJ ?_)
  refine z6 [] 0 _ (hcp) rfl rfl fin9 fin9 ?_;rintro _ _ _ ⟨rfl,rfl,rfl⟩
  have hrb:∀ {ρ:Nat→Nat} {l:List Bl} {g:Nat},AObj.ren ρ (.row 2 (l.map Bl.cells) g)=.row 2 (l.map Bl.cells) g:=fun {ρ l g}=>by simp only[AObj.ren];rw[zg0 (zj fun s=>rfl)]
  (repeat first|simp(disch:=try exact dis1) only[evD,Nat.reduceBEq,Nat.reduceAdd,Nat.reduceLeDiff,hrb]|with_reducible first|intro _|refine aJ ?_)
  refine zGV ad bl (zro exit bl) exit U hcnt ?_ ⟨hU,rfl,Wh _,rfl,fun h=>by cases h⟩ ?_
  ·
   unfold zca
   (repeat first|simp(disch:=try exact dis1) only[evD,Nat.reduceBEq,Nat.reduceAdd,Nat.reduceLeDiff,zfc]|with_reducible first|intro _|refine aJ ?_)
   refine⟨.tup [.agg [.int .u32 ad,encL 2 Bl.cells (zro exit bl)],.int .i64 ((zJ bl - zJ (zro exit bl):Nat):Int),.int .i64 0],.tup _ _ _ rfl (fun j a c h1 h2=>?_),rfl⟩
   match j with
   |
    0 =>
    cases h1;cases h2;refine .agg _ _ _ rfl (fun j a c h1 h2=>?_)
    match j with
    | 0=>cases h1;cases h2;exact .int _ _ _
    | 1=>cases h1;cases h2;rw[←hpl];exact zBZ trivial rfl (by omega)
    | j+2=>cases h1
   | 1=>cases h1;cases h2;exact .int _ _ _
   | 2=>cases h1;cases h2;exact .int _ _ _
   | j+3=>cases h1
  · exact(Ent.tab [(0,0,0),(1,2,0),(2,1,0)] [] rfl Qaz Qaz)
 ·
  rw[if_neg hc]
  (repeat first|simp(disch:=try exact dis1) only[evD,Nat.reduceBEq,Nat.reduceAdd,Nat.reduceLeDiff,fldP,dT,za,zfc]|with_reducible first|intro _|refine aJ ?_)
  refine⟨.tup [.agg [.int .u32 0,encL 2 Bl.cells []],.int .i64 0,.int .i64 (zfE ⟨ad,bl⟩)],.tup _ _ _ rfl (fun j a c h1 h2=>?_),rfl⟩
  match j with
  |
   0 =>
   cases h1;cases h2;refine .agg _ _ _ rfl (fun j a c h1 h2=>?_)
   match j with
   | 0=>cases h1;cases h2;exact .int _ _ _
   | 1=>cases h1;cases h2;exact .nil0 _ _ _
   | j+2=>cases h1
  | 1=>cases h1;cases h2;exact .int _ _ _
  | 2=>cases h1;cases h2;exact .int _ _ _
  | j+3=>cases h1
end Go.Ab
