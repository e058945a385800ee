/-
  Part 8 of the proof: how the calls of this program run, over values instead of memory, and what each function computes.
-/
import Derived.Test.YtjcbhpmmngfmeaaGreatKg
set_option maxRecDepth 100000
set_option linter.unusedVariables false
set_option linter.unusedSimpArgs false
set_option linter.unnecessarySimpa false
set_option linter.unusedSectionVars false
open Bool renaming and_false→Wa,and_true→Wd,and_eq_true→Wr
open List renaming length_append→Wc,all_eq_not_any_not→We,append_assoc→Wf,length_cons→Wg,map_append→Wh,length_nil→Wi,drop_eq_getElem_cons→Wk,cons_append→Wm,singleton_append→Wn,nil_append→Wo,append_nil→Wp,getElem_mem→Wq,reverse_cons→Ws,reverse_nil→Wt,reverse_singleton→Wu,reverse_append→Wv,eq_nil_of_length_eq_zero→Ww,drop_of_length_le→Wx,findIdx?_eq_some_iff_getElem→Wy,findIdx?_eq_none_iff→Wz
open Nat renaming zero_le→Wj,le_refl→Wl
namespace Go.Ab
open Go.RowKit Go.Proofs
def One (p:NdF→List Int):Prop:=∀f,(p f).length≤1
theorem zuB:One labP:=fun f=>by unfold labP;split<;>simp
theorem zzr:One blkP:=fun f=>by unfold blkP;split<;>simp
mutual
theorem zng {p:NdF→List Int} (h:One p):∀n:Nd,(coll p n).length≤zax n
 | .mk f _ l=>by rw[coll,Wc,zax];have:=h f;have:=zsh h l;omega
theorem zsh {p:NdF→List Int} (h:One p):∀l:List Nd,(zrZ p l).length≤zZ l
 | []=>by rw[zrZ];simp
 | x::l=>by rw[zrZ,Wc,zZ];have:=zng h x;have:=zsh h l;omega
end
theorem zv6 {l:List Int} {H:AH}:zea 1 (encL 1 (fun n=>[.int .i64 n]) l) H=some (l.map cI):=zpy (fun _ _=>rfl)
theorem zmH:∀l m:List Nd,zd9 (l++m)=zd9 l++zd9 m
 | [],m=>by rw[zd9];rfl
 | x::l,m=>by rw[Wm,zd9,zd9,zmH l m,Wf]
theorem zcN:∀l m:List Nd,zZ (l++m)=zZ l+zZ m
 | [],m=>by rw[zZ];simp
 | x::l,m=>by rw[Wm,zZ,zZ,zcN l m];omega
theorem zyK:∀n:Nd,1≤zax n
 | .mk _ _ _=>by rw[zax];omega
theorem zjy:∀l:List Nd,l.length≤zZ l
 | []=>by rw[zZ];simp
 | x::l=>by rw[Wg,zZ];have:=zjy l;have:=zyK x;omega
theorem zoZ (l:List Nd):zZ l.reverse=zZ l:=by
 induction l with
 | nil=>rfl
 | cons a l ih=>rw[Ws,zcN,ih];simp only[zZ];omega
theorem zAf {H H2:AH} {σ:Nat→Nat→Option (Nat × Nat × Nat)} {D:Nat→Nat→Prop} {t:Bool}:∀(e:Nd) (j:Nat),j < 5→Vw H H2 σ D t ((encN e).getD j .undef) ((encN e).getD j .undef)
 |
  .mk _ _ _,j,hj=>by
  rw[zeC]
  match j,hj with
  | 0,_=>exact .int _ _ _
  | 1,_=>exact .int _ _ _
  | 2,_=>exact .int _ _ _
  | 3,_=>exact .sl _ _ _ _
  | 4,_=>exact .sl _ _ _ _
theorem zAj {H H2:AH} {σ:Nat→Nat→Option (Nat × Nat × Nat)} {D:Nat→Nat→Prop} {t:Bool} {r q g:Nat} {l:List Nd} (hD:D r q) (hg:H.get r q=some (.row 5 (l.map encN) g)) (hb:l.length≤big):Vw H H2 σ D t (.own r q g 0 l.length) (encL 5 encN l) :=
 znu hD hg hb fun a _ j hj=>zAf a j hj
theorem Qu {p q:Prop}(k:q)(h:Im q p:=by(repeat first|simp(disch:=try exact dis1) only[evD,Nat.reduceBEq,Nat.reduceAdd,Nat.reduceLeDiff,zbM,zaK,zbe] | ((with_reducible apply Im.i);intro _) | ((with_reducible apply Im.a);omega));exact Im.r):p:=h k
theorem Qa {p q:Prop}(k:q)(h:Im q p:=by(repeat first|simp(disch:=try exact dis1) only[evD,Nat.reduceBEq,Nat.reduceAdd,Nat.reduceLeDiff] | ((with_reducible apply Im.i);intro _) | ((with_reducible apply Im.a);omega));exact Im.r):p:=h k
theorem Qk {p q:Prop}(k:q)(h:Im q p:=by(repeat first|simp(disch:=try exact dis1) only[evD,Nat.reduceBEq,Nat.reduceAdd,Nat.reduceLeDiff,dF] | ((with_reducible apply Im.i);intro _) | ((with_reducible apply Im.a);omega));exact Im.r):p:=h k
theorem Qav {p:Prop}(h:p:=by(try simp only[evWB,Nat.reduceBEq,Nat.reduceAdd,Nat.reduceSub,Nat.reduceLeDiff,Nat.reduceLT,implies_true,zaK])<;>exact fin1):p:=h
theorem Qaw {p:Prop}(h:p:=by(try simp only[evWB,Nat.reduceBEq,Nat.reduceAdd,Nat.reduceSub,Nat.reduceLeDiff,Nat.reduceLT,implies_true,List.length_append,List.map_append,List.append_assoc,List.singleton_append])<;>exact fin2):p:=h
theorem Qax {p:Prop}(h:p:=by(try simp only[evWB,Nat.reduceBEq,Nat.reduceAdd,Nat.reduceSub,Nat.reduceLeDiff,Nat.reduceLT,implies_true,List.length_append,List.map_append,List.append_assoc,List.singleton_append,List.drop_length,List.reverse_nil,Nat.sub_zero,List.nil_append])<;>exact fin2):p:=h
theorem Qay {p:Prop}(h:p:=by(try simp only[evWB,Nat.reduceBEq,Nat.reduceAdd,Nat.reduceSub,Nat.reduceLeDiff,Nat.reduceLT,implies_true,List.length_append,List.map_append,List.append_assoc,List.append_nil,List.map_cons,List.map_nil,List.length_cons,List.length_nil])<;>exact fin2):p:=h
theorem Qan {p:Prop}(h:p:=by(try simp only[evWB,Nat.reduceBEq,Nat.reduceAdd,Nat.reduceSub,Nat.reduceLeDiff,Nat.reduceLT,implies_true])<;>exact fin2):p:=h
theorem ziD (e:Nd) (hs:zax e≤1000):zk Tryz.prog zdN [.agg (encN e)] (·=encL 5 encN (allN e)):=by
 refine fn_x zmT rfl ?_;unfold ziH;have hB:=hBig;generalize hR:allN e=R
 have hRl:R.length≤1000:=by rw[←hR,zna];exact hs
 (refine Qu ?_;intros)
 refine zm (fun s:List Nd × List Nd × List Nd=>([(3,.own 0 0 0 0 s.1.length),(4,.own 1 0 0 0 s.2.1.length)],[(0,.row 5 (s.1.map encN) 0),(1,.row 5 ((s.2.1++s.2.2).map encN) 0)])) 2 (fun s=>s.1++zd9 s.2.1.reverse=R∧s.1.length+zZ s.2.1≤1000) (fun s=>zZ s.2.1) ([],[e],[]) ⟨by simp only[Wu,Wo,zd9,Wp];exact hR,by simp only[zZ,Wi];omega⟩ (Ent.tab [(0,1,0),(1,2,0)] [] rfl Qav Qav) ?_;rintro⟨out,rest,junk⟩ ⟨hgo,hsz⟩ wf;simp only at hgo hsz;unfold zgc;have hlr:=zjy rest
 by_cases hr:0 < rest.length
 ·
  obtain⟨r,x,rfl⟩:∃r x,rest=r++[x]:=⟨rest.dropLast,rest.getLast (by intro h;rw[h] at hr;simp at hr),(List.dropLast_concat_getLast _).symm⟩
  have hlen:(r++[x]).length=r.length+1:=by simp
  have hidx:(((r.length+1:Nat):Int) - 1).toNat=r.length:=by omega
  have hget:(List.map encN (r++[x]++junk)).getD r.length []=encN x:=by rw[Wf,Wh,List.getD_eq_getElem?_getD,List.getElem?_append_right (by simp)];simp
  have hll:(r++[x]++junk).length=r.length+1+junk.length:=by simp;omega
  rw[zcN] at hsz;rw[Wv,Wu,Wn,zd9] at hgo;obtain⟨⟨kd,bl,lb⟩,c,l⟩:=x;simp only[zZ,zax,Nat.add_zero] at hsz;rw[allN,←Wf] at hgo;generalize hE:encN (Nd.mk ⟨kd,bl,lb⟩ c l)=E at hget;have hE':=hE;rw[zeC] at hE';simp only at hE';subst hE';rw[hlen] at hlr
  (repeat first|simp(disch:=try exact dis1) only[evD,Nat.reduceBEq,Nat.reduceAdd,Nat.reduceLeDiff,dT,hidx,hget,hll,hlen,Wg,Wi]|with_reducible first|intro _|refine aJ ?_)
  have hn4:((((r.length+1:Nat):Int)) - 1 - 0).toNat=r.length:=by omega
  simp only[hn4,Int.toNat_zero];simp only[←hE] at hget ⊢
  have h4:(encN (Nd.mk ⟨kd,bl,lb⟩ c l)).getD 4 .undef=encL 5 encN l:=by rw[hE];rfl
  have hX:List.map encN out++[encN (Nd.mk ⟨kd,bl,lb⟩ c l)]=List.map encN (out++[Nd.mk ⟨kd,bl,lb⟩ c l]):=by simp
  (refine zx (fun hc=>?_) (fun hc=>?_))<;>(try simp only[dcd] at hc)
  ·
   have hl0:l=[]:=Ww (by omega);subst hl0;rw[zd9] at hgo
   (refine Qa ?_;intros)
   exact⟨(out++[Nd.mk ⟨kd,bl,lb⟩ c []],r,Nd.mk ⟨kd,bl,lb⟩ c []::junk),⟨hgo,by simp only[Wc,Wg,Wi];simp only[zZ] at hsz;omega⟩,by simp only[zcN,zZ,zax];omega,(Ent.tab [(0,0,1),(1,1,0)] [] rfl Qaw Qaw)⟩
  ·
   have hl0:0 < l.length:=by omega
   (repeat first|simp(disch:=try exact dis1) only[evD,Nat.reduceBEq,Nat.reduceAdd,Nat.reduceLeDiff,fldP,h4]|with_reducible first|intro _|refine aJ ?_)
   refine zm (fun s:Nat × List Nd=>([(3,.own 0 0 0 0 (out++[Nd.mk ⟨kd,bl,lb⟩ c l]).length),(4,.own 1 0 0 0 (r++(l.drop (l.length - s.1)).reverse).length),(5,.ptr 2 0 0 0 0),(6,.int .i64 ((l.length:Int) - 1 - s.1))],[(0,.row 5 ((out++[Nd.mk ⟨kd,bl,lb⟩ c l]).map encN) 0),(1,.row 5 ((r++(l.drop (l.length - s.1)).reverse++s.2).map encN) 0),(2,.row 5 [encN (Nd.mk ⟨kd,bl,lb⟩ c l)] 0)])) 3 (fun s=>s.1≤l.length) (fun s=>l.length - s.1) (0,Nd.mk ⟨kd,bl,lb⟩ c l::junk) (Wj _) (Ent.tab [(0,0,1),(1,1,0),(2,2,0)] [] rfl Qax Qax) ?_;rintro⟨j,jk⟩ hj wf2;simp only at hj;unfold zgj
   by_cases hjl:j < l.length
   ·
    have hix:((l.length:Int) - 1 - (j:Int)).toNat=l.length - 1 - j:=by omega
    have hlt:l.length - 1 - j < l.length:=by omega
    have hD:((l.drop (l.length - j)).reverse).length=j:=by simp;omega
    have hst:(l.drop (l.length - (j+1))).reverse=(l.drop (l.length - j)).reverse++[l[l.length - 1 - j]]:=by rw[show l.length - (j+1)=l.length - 1 - j by omega,Wk hlt,Ws,show l.length - 1 - j+1=l.length - j by omega]
    generalize hDD:(l.drop (l.length - j)).reverse=D at *
    have htk:List.take (r++D).length (List.map encN (r++D++jk))=List.map encN (r++D):=by rw[Wh (l₁:=r++D),List.take_left' (by simp)]
    have hll2:(r++D).length=r.length+j:=by rw[Wc,hD]
    have hlr2:r.length≤1000:=by have:=zjy r;omega
    have hll3:l.length≤1000:=by have:=zjy l;omega
    (repeat first|simp(disch:=try exact dis1) only[evD,Nat.reduceBEq,Nat.reduceAdd,Nat.reduceLeDiff,dT,fldP,h4,hix,zo hlt,zbM,zbe,htk]|with_reducible first|intro _|refine aJ ?_)
    refine⟨⟨by simp,by omega⟩,(j+1,[]),by simp only;omega,by simp only;omega,?_⟩;simp only[hst];exact(Ent.tab [(0,0,0),(1,1,1),(2,2,0)] [] rfl Qay Qay)
   ·
    have hj2:j=l.length:=by omega
    subst hj2;simp only[Nat.sub_self,List.drop_zero]
    (refine Qk ?_;intros)
    have hsl:=zoZ l;refine⟨(out++[Nd.mk ⟨kd,bl,lb⟩ c l],r++l.reverse,jk),⟨?_,?_⟩,?_,(Ent.tab [(0,0,0),(1,1,0)] [] rfl Qan Qan)⟩
    · simp only[Wv,List.reverse_reverse,zmH];rw[←Wf];rw[←hgo];simp
    · simp only[Wc,Wg,Wi,zcN,hsl];omega
    · simp only[zcN,hsl,zZ,zax];omega
 ·
  rw[show rest=[] from Ww (by omega),Wt,zd9,Wp] at hgo;subst hgo
  (refine Qk ?_;intros)
  unfold zgo
  (repeat first|simp(disch:=try exact dis1) only[evD,Nat.reduceBEq,Nat.reduceAdd,Nat.reduceLeDiff,ziP]|with_reducible first|intro _|refine aJ ?_)
  exact⟨_,zAj (l:=out) trivial rfl (by omega),rfl⟩
def fm (p:NdF→List Int) (l:List Nd):List Int:=l.flatMap fun x=>p x.f
theorem zBo {p:NdF→List Int} {l:List Nd} {i:Nat} (h:i < l.length):fm p (l.drop i)=p l[i].f++fm p (l.drop (i+1)):=by rw[Wk h,fm,List.flatMap_cons];rfl
theorem zst (p:NdF→List Int) (n:Nd):fm p (allN n)=coll p n:=(zu8 p n).symm
theorem zyw (p:NdF→List Int):fm p []=[]:=rfl
theorem zvh {n:Nat} {c:List AV} (h:zt c=true):zu (List.replicate n c):=fun d hd=>by rw[List.eq_of_mem_replicate hd];exact h
def zqj (v:Int):Bool:=decide (0≤v∧v < 65536)
def zqq (w:Int):Bool:=decide (w=1∨w=2∨w=4)
theorem zhp (v:Int):zk Tryz.prog zfZ [.int .i64 v] (·=.bool (zqj v)):=by
 refine fn_x zpg rfl ?_;unfold zkb zqj
 by_cases h1:0≤v
 ·
  (repeat first|simp(disch:=try exact dis1) only[evD,Nat.reduceBEq,Nat.reduceAdd,Nat.reduceLeDiff,dT,zhm]|with_reducible first|intro _|refine aJ ?_)
  exact⟨_,.bool _ _,congrArg _ (decide_eq_decide.2 (by omega))⟩
 ·
  (repeat first|simp(disch:=try exact dis1) only[evD,Nat.reduceBEq,Nat.reduceAdd,Nat.reduceLeDiff,dF,zhm]|with_reducible first|intro _|refine aJ ?_)
  exact⟨_,.bool _ _,rfl⟩
theorem zmL (v:Int):zk Tryz.prog zie [.int .i64 v] (·=.bool (zqj v)):=by
 refine fn_x zsP rfl ?_;unfold zmC zqj
 by_cases h1:0≤v
 ·
  (repeat first|simp(disch:=try exact dis1) only[evD,Nat.reduceBEq,Nat.reduceAdd,Nat.reduceLeDiff,dT,zja]|with_reducible first|intro _|refine aJ ?_)
  exact⟨_,.bool _ _,congrArg _ (decide_eq_decide.2 (by omega))⟩
 ·
  (repeat first|simp(disch:=try exact dis1) only[evD,Nat.reduceBEq,Nat.reduceAdd,Nat.reduceLeDiff,dF,zja]|with_reducible first|intro _|refine aJ ?_)
  exact⟨_,.bool _ _,rfl⟩
theorem zmz (w:Int):zk Tryz.prog zij [.int .i64 w] (·=.bool (zqq w)):=by
 refine fn_x zsq rfl ?_;unfold zmr zqq
 by_cases h1:w=1
 ·
  (repeat first|simp(disch:=try exact dis1) only[evD,Nat.reduceBEq,Nat.reduceAdd,Nat.reduceLeDiff,dT,zgQ]|with_reducible first|intro _|refine aJ ?_)
  exact⟨_,.bool _ _,rfl⟩
 by_cases h2:w=2
 ·
  (repeat first|simp(disch:=try exact dis1) only[evD,Nat.reduceBEq,Nat.reduceAdd,Nat.reduceLeDiff,dF,dT,zgQ]|with_reducible first|intro _|refine aJ ?_)
  exact⟨_,.bool _ _,rfl⟩
 ·
  (repeat first|simp(disch:=try exact dis1) only[evD,Nat.reduceBEq,Nat.reduceAdd,Nat.reduceLeDiff,dF,zgQ]|with_reducible first|intro _|refine aJ ?_)
  exact⟨_,.bool _ _,congrArg _ (decide_eq_decide.2 (by omega))⟩
mutual
def znr:Ex→Int→Bool
 | .mk _ _ _ _ l,m=>if m < 1 then true else zlc l (m - 1)
def zlc:List Ex→Int→Bool
 | [],_=>false
 | e::l,m=>znr e m||zlc l m
end
theorem zpY:∀(l:List Ex) (m:Int),zlc l m=l.any (znr · m)
 | [],m=>by rw[zlc];rfl
 | e::l,m=>by rw[zlc,zpY l m];rfl
def zi (op n v w:Int) (k:Nat):Bool:=decide ((op=1∧v=0∧w=0∧k=0)∨(op=2∧n=0∧w=0∧k=0∧0≤v∧v < 65536)∨((op=16∨op=17)∧n=0∧v=0∧w=0∧k=1)∨(op=18∧n=0∧v=0∧(w=1∨w=2∨w=4)∧k=1)∨(op=19∧n=0∧v=0∧(w=1∨w=2)∧k=1)∨(3≤op∧op≤15∧n=0∧v=0∧w=0∧k=2))
mutual
def zgN:Ex→Bool
 | .mk op n v w l=>zdz l&&zi op n v w l.length
def zdz:List Ex→Bool
 | []=>true
 | e::l=>zgN e&&zdz l
end
theorem zcS:∀(l:List Ex),zdz l=l.all zgN
 | []=>by rw[zdz];rfl
 | e::l=>by rw[zdz,zcS l];rfl
def ziL (e:Ex):Int:=if znr e 64=true then 20 else if zgN e=true then 0 else 2
theorem Qi {p q:Prop}(k:q)(h:Im q p:=by(repeat first|simp(disch:=try exact dis1) only[evD,Nat.reduceBEq,Nat.reduceAdd,Nat.reduceLeDiff,fldP,dF] | ((with_reducible apply Im.i);intro _) | ((with_reducible apply Im.a);omega));exact Im.r):p:=h k
theorem QK {p q:Prop}(k:q)(h:Im q p:=by(repeat first|simp(disch:=try exact dis1) only[evD,Nat.reduceBEq,Nat.reduceAdd,Nat.reduceLeDiff,zfX] | ((with_reducible apply Im.i);intro _) | ((with_reducible apply Im.a);omega));exact Im.r):p:=h k
theorem zqg:∀(k:Nat) (e:Ex) (m:Int),zgO e≤k → -1000≤m→m≤1000→zk Tryz.prog zha [.agg (encX e),.int .i64 m] (·=.bool (znr e m)):=by
 intro k
 induction k with
 | zero=>intro e m h;obtain⟨_,_,_,_,l⟩:=e;rw[zgO] at h;omega
 | succ k ih =>
 intro e m hk hm1 hm2;obtain⟨op,nn,v,w,l⟩:=e;refine fn_x zqJ rfl ?_;unfold zlS;have hB:=hBig;rw[zgO] at hk;rw[zhn,znr]
 by_cases h1:m < 1
 ·
  rw[if_pos h1]
  (repeat first|simp(disch:=try exact dis1) only[evD,Nat.reduceBEq,Nat.reduceAdd,Nat.reduceLeDiff,fldP,dT,zfX]|with_reducible first|intro _|refine aJ ?_)
  exact⟨_,.bool _ _,rfl⟩
 ·
  rw[if_neg h1]
  (refine Qi ?_;intros)
  generalize hR:zlc l (m - 1)=R;refine zm (fun i:Nat=>([(1,.int .i64 m),(2,encP 5 [.int .i64 op,.int .u32 nn,.int .i64 v,.int .i64 w,encL 5 encX l]),(5,.int .i64 i)],[])) 0 (fun i=>i≤l.length∧zlc (l.drop i) (m - 1)=R) (fun i=>l.length - i) 0 ⟨Wj _,hR⟩ (Ent.keep rfl fin5) ?_;rintro i ⟨hi,hgo⟩ wf;unfold ziy
  by_cases hl:i < l.length
  ·
   have hm:=zhW (Wq hl);rw[Wk hl,zlc] at hgo
   (repeat first|simp(disch:=try exact dis1) only[evD,Nat.reduceBEq,Nat.reduceAdd,Nat.reduceLeDiff,fldP,dT,zo hl,zbO,zbn]|with_reducible first|intro _|refine aJ ?_)
   refine zc (zg (ih l[i] (m - 1) (by omega) (by omega) (by omega)) (flX rfl)) ?_
   cases hd:znr l[i] (m - 1) with
   |
    true =>
    rw[hd,Bool.true_or] at hgo;subst hgo
    (refine QK ?_;intros)
    exact⟨_,.bool _ _,rfl⟩
   |
    false =>
    rw[hd,Bool.false_or] at hgo
    (refine Qa ?_;intros)
    exact⟨i+1,⟨by omega,hgo⟩,by omega,Ent.keep rfl fin5⟩
  ·
   rw[Wx (by omega),zlc] at hgo;subst hgo
   (refine Qi ?_;intros)
   unfold ziG
   (refine QK ?_;intros)
   exact⟨_,.bool _ _,rfl⟩
theorem Qh {p q:Prop}(k:q)(h:Im q p:=by(repeat first|simp(disch:=try exact dis1) only[evD,Nat.reduceBEq,Nat.reduceAdd,Nat.reduceLeDiff,dT,dF,fldP,ze] | ((with_reducible apply Im.i);intro _) | ((with_reducible apply Im.a);omega));exact Im.r):p:=h k
theorem zoO {op nn v w i:Int} {l:List Ex} (h:op=1) :
  wpX Tryz.prog 0 zG (retK ze fun v' H' x=>∃a,Frz H' v' a∧a=.bool (zi op nn v w l.length)) [(1,encP 5 [.int .i64 op,.int .u32 nn,.int .i64 v,.int .i64 w,encL 5 encX l]),(3,.int .i64 i),(8,.bool false)] [] 0:=by
 unfold zG;have hB:=hBig
 (refine Qh ?_;intros)
 by_cases q0:v=0<;>(refine Qh ?_;intros)
 case neg =>unfold zi;exact⟨_,.bool _ _,congrArg AV.bool lb⟩
 by_cases q1:w=0<;>(refine Qh ?_;intros)
 case neg =>unfold zi;exact⟨_,.bool _ _,congrArg AV.bool lb⟩
 unfold zi;exact⟨_,.bool _ _,congrArg AV.bool lb⟩
theorem zoj {op nn v w i:Int} {l:List Ex} (h:op=2) :
  wpX Tryz.prog 0 zG (retK ze fun v' H' x=>∃a,Frz H' v' a∧a=.bool (zi op nn v w l.length)) [(1,encP 5 [.int .i64 op,.int .u32 nn,.int .i64 v,.int .i64 w,encL 5 encX l]),(3,.int .i64 i),(8,.bool false)] [] 0:=by
 unfold zG;have hB:=hBig
 (refine Qh ?_;intros)
 by_cases q0:nn=0<;>(refine Qh ?_;intros)
 case neg =>unfold zi;exact⟨_,.bool _ _,congrArg AV.bool lb⟩
 by_cases q1:w=0<;>(refine Qh ?_;intros)
 case neg =>unfold zi;exact⟨_,.bool _ _,congrArg AV.bool lb⟩
 by_cases q2:l.length=0<;>(refine Qh ?_;intros)
 case neg =>unfold zi;exact⟨_,.bool _ _,congrArg AV.bool lb⟩
 refine zc (zg (zmL v) rfl) ?_;unfold zqj
 (refine Qh ?_;intros)
 unfold zi;exact⟨_,.bool _ _,congrArg AV.bool lb⟩
theorem zoy {op nn v w i:Int} {l:List Ex} (h:op=16) :
  wpX Tryz.prog 0 zG (retK ze fun v' H' x=>∃a,Frz H' v' a∧a=.bool (zi op nn v w l.length)) [(1,encP 5 [.int .i64 op,.int .u32 nn,.int .i64 v,.int .i64 w,encL 5 encX l]),(3,.int .i64 i),(8,.bool false)] [] 0:=by
 unfold zG;have hB:=hBig
 (refine Qh ?_;intros)
 by_cases q0:nn=0<;>(refine Qh ?_;intros)
 case neg =>unfold zi;exact⟨_,.bool _ _,congrArg AV.bool lb⟩
 by_cases q1:v=0<;>(refine Qh ?_;intros)
 case neg =>unfold zi;exact⟨_,.bool _ _,congrArg AV.bool lb⟩
 by_cases q2:w=0<;>(refine Qh ?_;intros)
 case neg =>unfold zi;exact⟨_,.bool _ _,congrArg AV.bool lb⟩
 unfold zi;exact⟨_,.bool _ _,congrArg AV.bool lb⟩
theorem zny {op nn v w i:Int} {l:List Ex} (h:op=17) :
  wpX Tryz.prog 0 zG (retK ze fun v' H' x=>∃a,Frz H' v' a∧a=.bool (zi op nn v w l.length)) [(1,encP 5 [.int .i64 op,.int .u32 nn,.int .i64 v,.int .i64 w,encL 5 encX l]),(3,.int .i64 i),(8,.bool false)] [] 0:=by
 unfold zG;have hB:=hBig
 (refine Qh ?_;intros)
 by_cases q0:nn=0<;>(refine Qh ?_;intros)
 case neg =>unfold zi;exact⟨_,.bool _ _,congrArg AV.bool lb⟩
 by_cases q1:v=0<;>(refine Qh ?_;intros)
 case neg =>unfold zi;exact⟨_,.bool _ _,congrArg AV.bool lb⟩
 by_cases q2:w=0<;>(refine Qh ?_;intros)
 case neg =>unfold zi;exact⟨_,.bool _ _,congrArg AV.bool lb⟩
 unfold zi;exact⟨_,.bool _ _,congrArg AV.bool lb⟩
theorem zot {op nn v w i:Int} {l:List Ex} (h:op=18) :
  wpX Tryz.prog 0 zG (retK ze fun v' H' x=>∃a,Frz H' v' a∧a=.bool (zi op nn v w l.length)) [(1,encP 5 [.int .i64 op,.int .u32 nn,.int .i64 v,.int .i64 w,encL 5 encX l]),(3,.int .i64 i),(8,.bool false)] [] 0:=by
 unfold zG;have hB:=hBig
 (refine Qh ?_;intros)
 by_cases q0:nn=0<;>(refine Qh ?_;intros)
 case neg =>unfold zi;exact⟨_,.bool _ _,congrArg AV.bool lb⟩
 by_cases q1:v=0<;>(refine Qh ?_;intros)
 case neg =>unfold zi;exact⟨_,.bool _ _,congrArg AV.bool lb⟩
 by_cases w1:w=1
 case pos =>
  (refine Qh ?_;intros)
  unfold zi;exact⟨_,.bool _ _,congrArg AV.bool lb⟩
 (refine Qh ?_;intros)
 by_cases w2:w=2
 case pos =>
  (refine Qh ?_;intros)
  unfold zi;exact⟨_,.bool _ _,congrArg AV.bool lb⟩
 (refine Qh ?_;intros)
 by_cases w4:w=4
 case pos =>
  (refine Qh ?_;intros)
  unfold zi;exact⟨_,.bool _ _,congrArg AV.bool lb⟩
 (refine Qh ?_;intros)
 unfold zi;exact⟨_,.bool _ _,congrArg AV.bool lb⟩
theorem zog {op nn v w i:Int} {l:List Ex} (h:op=19) :
  wpX Tryz.prog 0 zG (retK ze fun v' H' x=>∃a,Frz H' v' a∧a=.bool (zi op nn v w l.length)) [(1,encP 5 [.int .i64 op,.int .u32 nn,.int .i64 v,.int .i64 w,encL 5 encX l]),(3,.int .i64 i),(8,.bool false)] [] 0:=by
 unfold zG;have hB:=hBig
 (refine Qh ?_;intros)
 by_cases q0:nn=0<;>(refine Qh ?_;intros)
 case neg =>unfold zi;exact⟨_,.bool _ _,congrArg AV.bool lb⟩
 by_cases q1:v=0<;>(refine Qh ?_;intros)
 case neg =>unfold zi;exact⟨_,.bool _ _,congrArg AV.bool lb⟩
 by_cases w1:w=1
 case pos =>
  (refine Qh ?_;intros)
  unfold zi;exact⟨_,.bool _ _,congrArg AV.bool lb⟩
 (refine Qh ?_;intros)
 by_cases w2:w=2
 case pos =>
  (refine Qh ?_;intros)
  unfold zi;exact⟨_,.bool _ _,congrArg AV.bool lb⟩
 (refine Qh ?_;intros)
 unfold zi;exact⟨_,.bool _ _,congrArg AV.bool lb⟩
theorem zo1 {op nn v w i:Int} {l:List Ex} (h1:op≠1) (h2:op≠2) (h16:op≠16) (h17:op≠17) (h18:op≠18) (h19:op≠19) :
  wpX Tryz.prog 0 zG (retK ze fun v' H' x=>∃a,Frz H' v' a∧a=.bool (zi op nn v w l.length)) [(1,encP 5 [.int .i64 op,.int .u32 nn,.int .i64 v,.int .i64 w,encL 5 encX l]),(3,.int .i64 i),(8,.bool false)] [] 0:=by
 unfold zG;have hB:=hBig
 (refine Qh ?_;intros)
 by_cases q0:3≤op<;>(refine Qh ?_;intros)
 case neg =>unfold zi;exact⟨_,.bool _ _,congrArg AV.bool lb⟩
 by_cases q1:op≤15<;>(refine Qh ?_;intros)
 case neg =>unfold zi;exact⟨_,.bool _ _,congrArg AV.bool lb⟩
 by_cases q2:nn=0<;>(refine Qh ?_;intros)
 case neg =>unfold zi;exact⟨_,.bool _ _,congrArg AV.bool lb⟩
 by_cases q3:v=0<;>(refine Qh ?_;intros)
 case neg =>unfold zi;exact⟨_,.bool _ _,congrArg AV.bool lb⟩
 by_cases q4:w=0<;>(refine Qh ?_;intros)
 case neg =>unfold zi;exact⟨_,.bool _ _,congrArg AV.bool lb⟩
 unfold zi;exact⟨_,.bool _ _,congrArg AV.bool lb⟩
theorem Ql {p q:Prop}(k:q)(h:Im q p:=by(repeat first|simp(disch:=try exact dis1) only[evD,Nat.reduceBEq,Nat.reduceAdd,Nat.reduceLeDiff,fldP] | ((with_reducible apply Im.i);intro _) | ((with_reducible apply Im.a);omega));exact Im.r):p:=h k
theorem zoN:∀(k:Nat) (e:Ex),zgO e≤k→zk Tryz.prog zeS [.agg (encX e)] (·=.bool (zgN e)):=by
 intro k
 induction k with
 | zero=>intro e h;obtain⟨_,_,_,_,l⟩:=e;rw[zgO] at h;omega
 | succ k ih =>
 intro e hk;obtain⟨op,nn,v,w,l⟩:=e;refine fn_x znK rfl ?_;unfold zjp;have hB:=hBig;rw[zgO] at hk;rw[zhn,zgN];generalize hR:zdz l=R
 (refine Ql ?_;intros)
 refine zm (fun i:Nat=>([(1,encP 5 [.int .i64 op,.int .u32 nn,.int .i64 v,.int .i64 w,encL 5 encX l]),(3,.int .i64 i)],[])) 0 (fun i=>i≤l.length∧zdz (l.drop i)=R) (fun i=>l.length - i) 0 ⟨Wj _,hR⟩ (Ent.keep rfl fin5) ?_;rintro i ⟨hi,hgo⟩ wf;unfold zg5
 by_cases hl:i < l.length
 ·
  have hm:=zhW (Wq hl);rw[Wk hl,zdz] at hgo
  (repeat first|simp(disch:=try exact dis1) only[evD,Nat.reduceBEq,Nat.reduceAdd,Nat.reduceLeDiff,fldP,dT,zo hl,zbO,zbn]|with_reducible first|intro _|refine aJ ?_)
  refine zc (zg (ih l[i] (by omega)) (flX rfl)) ?_
  cases hd:zgN l[i] with
  |
   false =>
   rw[hd,Bool.false_and] at hgo;subst hgo
   (repeat first|simp(disch:=try exact dis1) only[evD,Nat.reduceBEq,Nat.reduceAdd,Nat.reduceLeDiff,ze]|with_reducible first|intro _|refine aJ ?_)
   exact⟨_,.bool _ _,rfl⟩
  |
   true =>
   rw[hd,Bool.true_and] at hgo
   (refine Qa ?_;intros)
   exact⟨i+1,⟨by omega,hgo⟩,by omega,Ent.keep rfl fin5⟩
 ·
  rw[Wx (by omega),zdz] at hgo;subst hgo
  (repeat first|simp(disch:=try exact dis1) only[evD,Nat.reduceBEq,Nat.reduceAdd,Nat.reduceLeDiff,fldP,dF,Bool.true_and]|with_reducible first|intro _|refine aJ ?_)
  by_cases h1:op=1
  · exact zoO h1
  by_cases h2:op=2
  · exact zoj h2
  by_cases h16:op=16
  · exact zoy h16
  by_cases h17:op=17
  · exact zny h17
  by_cases h18:op=18
  · exact zot h18
  by_cases h19:op=19
  · exact zog h19
  exact zo1 h1 h2 h16 h17 h18 h19
theorem Qv {p q:Prop}(k:q)(h:Im q p:=by(repeat first|simp(disch:=try exact dis1) only[evD,Nat.reduceBEq,Nat.reduceAdd,Nat.reduceLeDiff,zbO,zn,zbn] | ((with_reducible apply Im.i);intro _) | ((with_reducible apply Im.a);omega));exact Im.r):p:=h k
theorem QB {p q:Prop}(k:q)(h:Im q p:=by(repeat first|simp(disch:=try exact dis1) only[evD,Nat.reduceBEq,Nat.reduceAdd,Nat.reduceLeDiff,zdm] | ((with_reducible apply Im.i);intro _) | ((with_reducible apply Im.a);omega));exact Im.r):p:=h k
theorem zmS (e:Ex):zk Tryz.prog zge [.agg (encX e)] (·=.int .i64 (ziL e)):=by
 refine fn_x zm0 rfl ?_;unfold ziK ziL;have hB:=hBig
 (refine Qv ?_;intros)
 refine zc (zg (zqg (zgO e) e 64 (Wl _) (by omega) (by omega)) (flX rfl)) ?_
 cases znr e 64 with
 |
  true =>
  (refine QB ?_;intros)
  exact⟨_,.int _ _ _,rfl⟩
 |
  false =>
  (refine Qv ?_;intros)
  refine zc (zg (zoN (zgO e) e (Wl _)) (flX rfl)) ?_
  cases zgN e with
  |
   true =>
   (refine QB ?_;intros)
   exact⟨_,.int _ _ _,rfl⟩
  |
   false =>
   (refine QB ?_;intros)
   exact⟨_,.int _ _ _,rfl⟩
structure PredE (fv:AV) (l:List Ex) (p:Ex→Bool):Prop where
 ex:∃f caps,fv=.fn (.func f) caps∧zcW Tryz.prog f=true∧zt caps=true∧∀s∈l,zk Tryz.prog f ([.agg (encX s)]++caps) (·=.bool (p s))
theorem zcI:∀ {l:List AV},zt l=true→l.all AV.flat=true
 | [],_=>rfl
 |
  a::l,h=>by
  simp only[zt,Wr] at h;simp only[List.all_cons,Wr];refine⟨?_,zcI h.2⟩
  cases a<;>first|rfl|exact absurd h.1 (by simp[AV.flat0])
theorem zt0 {fv:AV} {l:List Ex} {p:Ex→Bool} (hp:PredE fv l p) {s:Ex} (hs:s∈l) {H:AH} {nx:Nat} {k:AV→AH→Nat→Prop} (hk:k (.bool (p s)) H nx):zko Tryz.prog fv [.agg (encX s)] H nx k:=by obtain⟨f,caps,rfl,hg,hf,hx⟩:=hp.ex;rw[zhG];refine⟨hg,zc (zg (hx s hs) ?_) hk⟩;simp only[Wm,Wo,List.all_cons,Wr];exact⟨by have:=flX (r:=[]) rfl (e:=s);simpa using this,zcI hf⟩
theorem zeU {fv:AV} {l:List Ex} {p:Ex→Bool} (hp:PredE fv l p) {H H2:AH} {σ:Nat→Nat→Option (Nat × Nat × Nat)} {D:Nat→Nat→Prop} {t:Bool}:Vw H H2 σ D t fv fv:=by
 obtain⟨f,caps,rfl,hg,hf,hx⟩:=hp.ex
 refine .fn _ _ _ _ rfl fun i a b h1 h2=>?_
 rw[h1] at h2;cases h2;exact zco (zby hf h1)
def idxI (o:Option Nat):Int:=match o with|some i=>(i:Int)|none => -1
theorem QL {p q:Prop}(k:q)(h:Im q p:=by(repeat first|simp(disch:=try exact dis1) only[evD,Nat.reduceBEq,Nat.reduceAdd,Nat.reduceLeDiff,zam] | ((with_reducible apply Im.i);intro _) | ((with_reducible apply Im.a);omega));exact Im.r):p:=h k
theorem zj3 (l:List Ex) (fv:AV) (p:Ex→Bool) (hp:PredE fv l p):zk Tryz.prog zat [encL 5 encX l,fv] (·=.int .i64 (idxI (l.findIdx? p))):=by
 refine fn_x zc1 rfl ?_;unfold zbp;have hB:=hBig
 (refine Qa ?_;intros)
 refine zm (fun i:Nat=>([(0,encL 5 encX l),(1,fv),(7,.int .i64 l.length),(8,.int .i64 i)],[])) 0 (fun i=>i≤l.length∧∀j (h:j < l.length),j < i→p l[j]=false) (fun i=>l.length - i) 0 ⟨Wj _,fun j _ h=>by omega⟩ (Ent.keep rfl fin5) ?_;intro i ⟨hi,hno⟩ wf;unfold za8
 (refine Qa ?_;intros)
 (refine zx (fun h=>?_) (fun h=>?_))<;>(try simp only[dcd] at h)
 ·
  have hi':i < l.length:=by omega
  (repeat first|simp(disch:=try exact dis1) only[evD,Nat.reduceBEq,Nat.reduceAdd,Nat.reduceLeDiff,zo hi',zbO,zbn]|with_reducible first|intro _|refine aJ ?_)
  refine zt0 hp (Wq hi') ?_
  (refine Qa ?_;intros)
  (refine zx (fun h2=>?_) (fun h2=>?_))<;>(try simp only[dcd] at h2)
  ·
   (refine QL ?_;intros)
   have e:l.findIdx? p=some i:=by rw[Wy];exact⟨hi',h2,fun j hj=>by rw[hno j (by omega) hj];simp⟩
   rw[e];exact⟨_,.int _ _ _,rfl⟩
  ·
   (refine Qa ?_;intros)
   refine⟨i+1,⟨by omega,fun j hj hji=>?_⟩,by omega,Ent.keep rfl fin5⟩
   by_cases hje:j=i
   · subst hje;simpa using h2
   · exact hno j hj (by omega)
 ·
  unfold za5
  (refine QL ?_;intros)
  have e:l.findIdx? p=none:=by rw[Wz];intro x hx;obtain⟨j,hj,rfl⟩:=List.mem_iff_getElem.1 hx;exact hno j hj (by omega)
  rw[e];exact⟨_,.int _ _ _,rfl⟩
theorem zAG {l:List Ex} {p:Ex→Bool}:decide (idxI (l.findIdx? p) ≥ 0)=l.any p:=by
 cases h:l.findIdx? p with
 |
  none =>
  have:=Wz.1 h;rw[decide_eq_false (by simp[idxI])];symm;rw[List.any_eq_false];intro x hx;rw[this x hx];simp
 |
  some i =>
  obtain⟨h1,h2,_⟩:=Wy.1 h;rw[decide_eq_true (by simp[idxI])];exact(zq3 h1 h2).symm
theorem zR (l:List Ex) (fv:AV) (p:Ex→Bool) (hp:PredE fv l p):zk Tryz.prog zV [encL 5 encX l,fv] (·=.bool (l.any p)):=by
 refine fn_x zcy rfl ?_;unfold za2
 (refine Qa ?_;intros)
 refine zc (zM (D:=noR) (zj3 l fv p hp) (.cons (zao rfl) (.cons (zeU hp) .nil)) (.inl rfl)) ?_
 (repeat first|simp(disch:=try exact dis1) only[evD,Nat.reduceBEq,Nat.reduceAdd,Nat.reduceLeDiff,za7]|with_reducible first|intro _|refine aJ ?_)
 refine⟨_,.bool _ _,?_⟩;rw[←zAG]
theorem QM {p q:Prop}(k:q)(h:Im q p:=by(repeat first|simp(disch:=try exact dis1) only[evD,Nat.reduceBEq,Nat.reduceAdd,Nat.reduceLeDiff,zbO,zn,zbn,encP] | ((with_reducible apply Im.i);intro _) | ((with_reducible apply Im.a);omega));exact Im.r):p:=h k
theorem QN {p q:Prop}(k:q)(h:Im q p:=by(repeat first|simp(disch:=try exact dis1) only[evD,Nat.reduceBEq,Nat.reduceAdd,Nat.reduceLeDiff,fldP,dT,encP] | ((with_reducible apply Im.i);intro _) | ((with_reducible apply Im.a);omega));exact Im.r):p:=h k
theorem zqP:∀(k:Nat) (e:Ex) (m:Int),zgO e≤k → -1000≤m→m≤1000→zk Tryz.prog zg3 [.agg (encX e),.int .i64 m] (·=.bool (!znr e m)):=by
 intro k
 induction k with
 | zero=>intro e m h;obtain⟨_,_,_,_,l⟩:=e;rw[zgO] at h;omega
 | succ k ih =>
 intro e m hk hm1 hm2;obtain⟨op,nn,v,w,l⟩:=e;refine fn_x zqo rfl ?_;unfold zlC;have hB:=hBig;rw[zgO] at hk;rw[zhn,znr]
 by_cases h1:m < 1
 ·
  rw[if_pos h1]
  (repeat first|simp(disch:=try exact dis1) only[evD,Nat.reduceBEq,Nat.reduceAdd,Nat.reduceLeDiff,fldP,dF,encP,zh9]|with_reducible first|intro _|refine aJ ?_)
  exact⟨_,.bool _ _,rfl⟩
 ·
  rw[if_neg h1,zpY]
  have hp:PredE (.fn (.func zho) [encP 1 [.int .i64 m]]) l (znr · (m - 1)):=by
   refine⟨_,_,rfl,by kernel_rfl,rfl,fun s hs=>?_⟩;have hm:=zhW hs;refine fn_x zns rfl ?_;unfold zjo
   (refine QM ?_;intros)
   refine zc (zg (ih s (m - 1) (by omega) (by omega) (by omega)) (flX rfl)) ?_
   (repeat first|simp(disch:=try exact dis1) only[evD,Nat.reduceBEq,Nat.reduceAdd,Nat.reduceLeDiff,zi9]|with_reducible first|intro _|refine aJ ?_)
   exact⟨_,.bool _ _,rfl⟩
  (refine QN ?_;intros)
  refine zc (zM (D:=noR) (zR l _ _ hp) (.cons (zao rfl) (.cons (zeU hp) .nil)) (.inl rfl)) ?_
  (repeat first|simp(disch:=try exact dis1) only[evD,Nat.reduceBEq,Nat.reduceAdd,Nat.reduceLeDiff,zh9]|with_reducible first|intro _|refine aJ ?_)
  exact⟨_,.bool _ _,rfl⟩
theorem Qg {p q:Prop}(k:q)(h:Im q p:=by(repeat first|simp(disch:=try exact dis1) only[evD,Nat.reduceBEq,Nat.reduceAdd,Nat.reduceLeDiff,dT,dF,fldP,zn,zh] | ((with_reducible apply Im.i);intro _) | ((with_reducible apply Im.a);omega));exact Im.r):p:=h k
theorem zro {op nn v w:Int} {l:List Ex} (h:op=1) (hp:PredE (.fn (.func zad) []) l (fun x => !zgN x)):zk Tryz.prog zay [.agg [.int .i64 op,.int .u32 nn,.int .i64 v,.int .i64 w,encL 5 encX l]] (·=.bool (zdz l&&zi op nn v w l.length)):=by
 refine fn_x zbd rfl ?_;unfold zaM;have hB:=hBig
 (refine Qg ?_;intros)
 by_cases q0:v=0<;>(refine Qg ?_;intros)
 case neg =>exact⟨_,.bool _ _,congrArg AV.bool (by rw[show zi op nn v w l.length=false from by unfold zi;exact dF (by omega),Wa])⟩
 by_cases q1:w=0<;>(refine Qg ?_;intros)
 case neg =>exact⟨_,.bool _ _,congrArg AV.bool (by rw[show zi op nn v w l.length=false from by unfold zi;exact dF (by omega),Wa])⟩
 by_cases q2:l.length=0<;>(refine Qg ?_;intros)
 case neg =>exact⟨_,.bool _ _,congrArg AV.bool (by rw[show zi op nn v w l.length=false from by unfold zi;exact dF (by omega),Wa])⟩
 refine zc (zM (D:=noR) (zR l _ _ hp) (.cons (zao rfl) (.cons (zeU hp) .nil)) (.inl rfl)) ?_
 (refine Qg ?_;intros)
 exact⟨_,.bool _ _,congrArg AV.bool (by rw[show zi op nn v w l.length=true from by unfold zi;exact dT (by omega),Wd,zcS,We])⟩
theorem zrM {op nn v w:Int} {l:List Ex} (h:op=2) (hp:PredE (.fn (.func zad) []) l (fun x => !zgN x)):zk Tryz.prog zay [.agg [.int .i64 op,.int .u32 nn,.int .i64 v,.int .i64 w,encL 5 encX l]] (·=.bool (zdz l&&zi op nn v w l.length)):=by
 refine fn_x zbd rfl ?_;unfold zaM;have hB:=hBig
 (refine Qg ?_;intros)
 refine zc (zg (zhp v) rfl) ?_;unfold zqj
 by_cases hv:0≤v∧v < 65536<;>(refine Qg ?_;intros)
 case neg =>exact⟨_,.bool _ _,congrArg AV.bool (by rw[show zi op nn v w l.length=false from by unfold zi;exact dF (by omega),Wa])⟩
 by_cases q0:nn=0<;>(refine Qg ?_;intros)
 case neg =>exact⟨_,.bool _ _,congrArg AV.bool (by rw[show zi op nn v w l.length=false from by unfold zi;exact dF (by omega),Wa])⟩
 by_cases q1:w=0<;>(refine Qg ?_;intros)
 case neg =>exact⟨_,.bool _ _,congrArg AV.bool (by rw[show zi op nn v w l.length=false from by unfold zi;exact dF (by omega),Wa])⟩
 by_cases q2:l.length=0<;>(refine Qg ?_;intros)
 case neg =>exact⟨_,.bool _ _,congrArg AV.bool (by rw[show zi op nn v w l.length=false from by unfold zi;exact dF (by omega),Wa])⟩
 refine zc (zM (D:=noR) (zR l _ _ hp) (.cons (zao rfl) (.cons (zeU hp) .nil)) (.inl rfl)) ?_
 (refine Qg ?_;intros)
 exact⟨_,.bool _ _,congrArg AV.bool (by rw[show zi op nn v w l.length=true from by unfold zi;exact dT (by omega),Wd,zcS,We])⟩
theorem zru {op nn v w:Int} {l:List Ex} (h:3≤op) (h2:op≤15) (hp:PredE (.fn (.func zad) []) l (fun x => !zgN x)):zk Tryz.prog zay [.agg [.int .i64 op,.int .u32 nn,.int .i64 v,.int .i64 w,encL 5 encX l]] (·=.bool (zdz l&&zi op nn v w l.length)):=by
 refine fn_x zbd rfl ?_;unfold zaM;have hB:=hBig
 (refine Qg ?_;intros)
 by_cases q0:nn=0<;>(refine Qg ?_;intros)
 case neg =>exact⟨_,.bool _ _,congrArg AV.bool (by rw[show zi op nn v w l.length=false from by unfold zi;exact dF (by omega),Wa])⟩
 by_cases q1:v=0<;>(refine Qg ?_;intros)
 case neg =>exact⟨_,.bool _ _,congrArg AV.bool (by rw[show zi op nn v w l.length=false from by unfold zi;exact dF (by omega),Wa])⟩
 by_cases q2:w=0<;>(refine Qg ?_;intros)
 case neg =>exact⟨_,.bool _ _,congrArg AV.bool (by rw[show zi op nn v w l.length=false from by unfold zi;exact dF (by omega),Wa])⟩
 by_cases q3:l.length=2<;>(refine Qg ?_;intros)
 case neg =>exact⟨_,.bool _ _,congrArg AV.bool (by rw[show zi op nn v w l.length=false from by unfold zi;exact dF (by omega),Wa])⟩
 refine zc (zM (D:=noR) (zR l _ _ hp) (.cons (zao rfl) (.cons (zeU hp) .nil)) (.inl rfl)) ?_
 (refine Qg ?_;intros)
 exact⟨_,.bool _ _,congrArg AV.bool (by rw[show zi op nn v w l.length=true from by unfold zi;exact dT (by omega),Wd,zcS,We])⟩
theorem zqW {op nn v w:Int} {l:List Ex} (h:op=16) (hp:PredE (.fn (.func zad) []) l (fun x => !zgN x)):zk Tryz.prog zay [.agg [.int .i64 op,.int .u32 nn,.int .i64 v,.int .i64 w,encL 5 encX l]] (·=.bool (zdz l&&zi op nn v w l.length)):=by
 refine fn_x zbd rfl ?_;unfold zaM;have hB:=hBig
 (refine Qg ?_;intros)
 by_cases q0:nn=0<;>(refine Qg ?_;intros)
 case neg =>exact⟨_,.bool _ _,congrArg AV.bool (by rw[show zi op nn v w l.length=false from by unfold zi;exact dF (by omega),Wa])⟩
 by_cases q1:v=0<;>(refine Qg ?_;intros)
 case neg =>exact⟨_,.bool _ _,congrArg AV.bool (by rw[show zi op nn v w l.length=false from by unfold zi;exact dF (by omega),Wa])⟩
 by_cases q2:w=0<;>(refine Qg ?_;intros)
 case neg =>exact⟨_,.bool _ _,congrArg AV.bool (by rw[show zi op nn v w l.length=false from by unfold zi;exact dF (by omega),Wa])⟩
 by_cases q3:l.length=1<;>(refine Qg ?_;intros)
 case neg =>exact⟨_,.bool _ _,congrArg AV.bool (by rw[show zi op nn v w l.length=false from by unfold zi;exact dF (by omega),Wa])⟩
 refine zc (zM (D:=noR) (zR l _ _ hp) (.cons (zao rfl) (.cons (zeU hp) .nil)) (.inl rfl)) ?_
 (refine Qg ?_;intros)
 exact⟨_,.bool _ _,congrArg AV.bool (by rw[show zi op nn v w l.length=true from by unfold zi;exact dT (by omega),Wd,zcS,We])⟩
theorem zqk {op nn v w:Int} {l:List Ex} (h:op=17) (hp:PredE (.fn (.func zad) []) l (fun x => !zgN x)):zk Tryz.prog zay [.agg [.int .i64 op,.int .u32 nn,.int .i64 v,.int .i64 w,encL 5 encX l]] (·=.bool (zdz l&&zi op nn v w l.length)):=by
 refine fn_x zbd rfl ?_;unfold zaM;have hB:=hBig
 (refine Qg ?_;intros)
 by_cases q0:nn=0<;>(refine Qg ?_;intros)
 case neg =>exact⟨_,.bool _ _,congrArg AV.bool (by rw[show zi op nn v w l.length=false from by unfold zi;exact dF (by omega),Wa])⟩
 by_cases q1:v=0<;>(refine Qg ?_;intros)
 case neg =>exact⟨_,.bool _ _,congrArg AV.bool (by rw[show zi op nn v w l.length=false from by unfold zi;exact dF (by omega),Wa])⟩
 by_cases q2:w=0<;>(refine Qg ?_;intros)
 case neg =>exact⟨_,.bool _ _,congrArg AV.bool (by rw[show zi op nn v w l.length=false from by unfold zi;exact dF (by omega),Wa])⟩
 by_cases q3:l.length=1<;>(refine Qg ?_;intros)
 case neg =>exact⟨_,.bool _ _,congrArg AV.bool (by rw[show zi op nn v w l.length=false from by unfold zi;exact dF (by omega),Wa])⟩
 refine zc (zM (D:=noR) (zR l _ _ hp) (.cons (zao rfl) (.cons (zeU hp) .nil)) (.inl rfl)) ?_
 (refine Qg ?_;intros)
 exact⟨_,.bool _ _,congrArg AV.bool (by rw[show zi op nn v w l.length=true from by unfold zi;exact dT (by omega),Wd,zcS,We])⟩
theorem zqc {op nn v w:Int} {l:List Ex} (h:op=18) (hp:PredE (.fn (.func zad) []) l (fun x => !zgN x)):zk Tryz.prog zay [.agg [.int .i64 op,.int .u32 nn,.int .i64 v,.int .i64 w,encL 5 encX l]] (·=.bool (zdz l&&zi op nn v w l.length)):=by
 refine fn_x zbd rfl ?_;unfold zaM;have hB:=hBig
 (refine Qg ?_;intros)
 refine zc (zg (zmz w) rfl) ?_;unfold zqq
 by_cases hv:w=1∨w=2∨w=4<;>(refine Qg ?_;intros)
 case neg =>exact⟨_,.bool _ _,congrArg AV.bool (by rw[show zi op nn v w l.length=false from by unfold zi;exact dF (by omega),Wa])⟩
 by_cases q0:nn=0<;>(refine Qg ?_;intros)
 case neg =>exact⟨_,.bool _ _,congrArg AV.bool (by rw[show zi op nn v w l.length=false from by unfold zi;exact dF (by omega),Wa])⟩
 by_cases q1:v=0<;>(refine Qg ?_;intros)
 case neg =>exact⟨_,.bool _ _,congrArg AV.bool (by rw[show zi op nn v w l.length=false from by unfold zi;exact dF (by omega),Wa])⟩
 by_cases q2:l.length=1<;>(refine Qg ?_;intros)
 case neg =>exact⟨_,.bool _ _,congrArg AV.bool (by rw[show zi op nn v w l.length=false from by unfold zi;exact dF (by omega),Wa])⟩
 refine zc (zM (D:=noR) (zR l _ _ hp) (.cons (zao rfl) (.cons (zeU hp) .nil)) (.inl rfl)) ?_
 (refine Qg ?_;intros)
 exact⟨_,.bool _ _,congrArg AV.bool (by rw[show zi op nn v w l.length=true from by unfold zi;exact dT (by omega),Wd,zcS,We])⟩
theorem zpj {op nn v w:Int} {l:List Ex} (h:op=19) (hw:w=1) (hp:PredE (.fn (.func zad) []) l (fun x => !zgN x)):zk Tryz.prog zay [.agg [.int .i64 op,.int .u32 nn,.int .i64 v,.int .i64 w,encL 5 encX l]] (·=.bool (zdz l&&zi op nn v w l.length)):=by
 refine fn_x zbd rfl ?_;unfold zaM;have hB:=hBig
 (refine Qg ?_;intros)
 by_cases q0:nn=0<;>(refine Qg ?_;intros)
 case neg =>exact⟨_,.bool _ _,congrArg AV.bool (by rw[show zi op nn v w l.length=false from by unfold zi;exact dF (by omega),Wa])⟩
 by_cases q1:v=0<;>(refine Qg ?_;intros)
 case neg =>exact⟨_,.bool _ _,congrArg AV.bool (by rw[show zi op nn v w l.length=false from by unfold zi;exact dF (by omega),Wa])⟩
 by_cases q2:l.length=1<;>(refine Qg ?_;intros)
 case neg =>exact⟨_,.bool _ _,congrArg AV.bool (by rw[show zi op nn v w l.length=false from by unfold zi;exact dF (by omega),Wa])⟩
 refine zc (zM (D:=noR) (zR l _ _ hp) (.cons (zao rfl) (.cons (zeU hp) .nil)) (.inl rfl)) ?_
 (refine Qg ?_;intros)
 exact⟨_,.bool _ _,congrArg AV.bool (by rw[show zi op nn v w l.length=true from by unfold zi;exact dT (by omega),Wd,zcS,We])⟩
theorem zpl {op nn v w:Int} {l:List Ex} (h:op=19) (hw:w=2) (hp:PredE (.fn (.func zad) []) l (fun x => !zgN x)):zk Tryz.prog zay [.agg [.int .i64 op,.int .u32 nn,.int .i64 v,.int .i64 w,encL 5 encX l]] (·=.bool (zdz l&&zi op nn v w l.length)):=by
 refine fn_x zbd rfl ?_;unfold zaM;have hB:=hBig
 (refine Qg ?_;intros)
 by_cases q0:nn=0<;>(refine Qg ?_;intros)
 case neg =>exact⟨_,.bool _ _,congrArg AV.bool (by rw[show zi op nn v w l.length=false from by unfold zi;exact dF (by omega),Wa])⟩
 by_cases q1:v=0<;>(refine Qg ?_;intros)
 case neg =>exact⟨_,.bool _ _,congrArg AV.bool (by rw[show zi op nn v w l.length=false from by unfold zi;exact dF (by omega),Wa])⟩
 by_cases q2:l.length=1<;>(refine Qg ?_;intros)
 case neg =>exact⟨_,.bool _ _,congrArg AV.bool (by rw[show zi op nn v w l.length=false from by unfold zi;exact dF (by omega),Wa])⟩
 refine zc (zM (D:=noR) (zR l _ _ hp) (.cons (zao rfl) (.cons (zeU hp) .nil)) (.inl rfl)) ?_
 (refine Qg ?_;intros)
 exact⟨_,.bool _ _,congrArg AV.bool (by rw[show zi op nn v w l.length=true from by unfold zi;exact dT (by omega),Wd,zcS,We])⟩
theorem zpk {op nn v w:Int} {l:List Ex} (h:op=19) (h1:w≠1) (h2:w≠2) (hp:PredE (.fn (.func zad) []) l (fun x => !zgN x)):zk Tryz.prog zay [.agg [.int .i64 op,.int .u32 nn,.int .i64 v,.int .i64 w,encL 5 encX l]] (·=.bool (zdz l&&zi op nn v w l.length)):=by
 refine fn_x zbd rfl ?_;unfold zaM;have hB:=hBig
 (refine Qg ?_;intros)
 exact⟨_,.bool _ _,congrArg AV.bool (by rw[show zi op nn v w l.length=false from by unfold zi;exact dF (by omega),Wa])⟩
theorem ztN {op nn v w:Int} {l:List Ex} (h0:op < 1) (hp:PredE (.fn (.func zad) []) l (fun x => !zgN x)):zk Tryz.prog zay [.agg [.int .i64 op,.int .u32 nn,.int .i64 v,.int .i64 w,encL 5 encX l]] (·=.bool (zdz l&&zi op nn v w l.length)):=by
 refine fn_x zbd rfl ?_;unfold zaM;have hB:=hBig
 (refine Qg ?_;intros)
 exact⟨_,.bool _ _,congrArg AV.bool (by rw[show zi op nn v w l.length=false from by unfold zi;exact dF (by omega),Wa])⟩
theorem ztS {op nn v w:Int} {l:List Ex} (h0:19 < op) (hp:PredE (.fn (.func zad) []) l (fun x => !zgN x)):zk Tryz.prog zay [.agg [.int .i64 op,.int .u32 nn,.int .i64 v,.int .i64 w,encL 5 encX l]] (·=.bool (zdz l&&zi op nn v w l.length)):=by
 refine fn_x zbd rfl ?_;unfold zaM;have hB:=hBig
 (refine Qg ?_;intros)
 exact⟨_,.bool _ _,congrArg AV.bool (by rw[show zi op nn v w l.length=false from by unfold zi;exact dF (by omega),Wa])⟩
theorem zrt:∀(k:Nat) (e:Ex),zgO e≤k→zk Tryz.prog zay [.agg (encX e)] (·=.bool (zgN e)):=by
 intro k
 induction k with
 | zero=>intro e h;obtain⟨_,_,_,_,l⟩:=e;rw[zgO] at h;omega
 | succ k ih =>
 intro e hk;obtain⟨op,nn,v,w,l⟩:=e;rw[zgO] at hk;rw[zhn,zgN]
 have hp:PredE (.fn (.func zad) []) l (fun x => !zgN x):=by
  refine⟨_,_,rfl,by kernel_rfl,rfl,fun s hs=>?_⟩;have hm:=zhW hs;refine fn_x zpm rfl ?_;unfold zku;have hB:=hBig
  (refine QM ?_;intros)
  refine zc (zg (ih s (by omega)) (flX rfl)) ?_
  (repeat first|simp(disch:=try exact dis1) only[evD,Nat.reduceBEq,Nat.reduceAdd,Nat.reduceLeDiff,zkx]|with_reducible first|intro _|refine aJ ?_)
  exact⟨_,.bool _ _,rfl⟩
 by_cases h1:op=1
 · exact zro h1 hp
 by_cases h2:op=2
 · exact zrM h2 hp
 by_cases h3:3≤op∧op≤15
 · exact zru h3.1 h3.2 hp
 by_cases h16:op=16
 · exact zqW h16 hp
 by_cases h17:op=17
 · exact zqk h17 hp
 by_cases h18:op=18
 · exact zqc h18 hp
 by_cases h19:op=19
 ·
  by_cases w1:w=1
  · exact zpj h19 w1 hp
  by_cases w2:w=2
  · exact zpl h19 w2 hp
  exact zpk h19 w1 w2 hp
 by_cases h0:op < 1
 · exact ztN h0 hp
 exact ztS (by omega) hp
theorem QC {p q:Prop}(k:q)(h:Im q p:=by(repeat first|simp(disch:=try exact dis1) only[evD,Nat.reduceBEq,Nat.reduceAdd,Nat.reduceLeDiff,zdI] | ((with_reducible apply Im.i);intro _) | ((with_reducible apply Im.a);omega));exact Im.r):p:=h k
theorem zdX (e:Ex):zk Tryz.prog zeP [.agg (encX e)] (·=.int .i64 (ziL e)):=by
 refine fn_x znV rfl ?_;unfold ziZ ziL;have hB:=hBig
 (refine Qv ?_;intros)
 refine zc (zg (zqP (zgO e) e 64 (Wl _) (by omega) (by omega)) (flX rfl)) ?_
 cases znr e 64 with
 |
  true =>
  (refine QC ?_;intros)
  exact⟨_,.int _ _ _,rfl⟩
 |
  false =>
  (refine Qv ?_;intros)
  refine zc (zg (zrt (zgO e) e (Wl _)) (flX rfl)) ?_
  cases zgN e with
  |
   true =>
   (refine QC ?_;intros)
   exact⟨_,.int _ _ _,rfl⟩
  |
   false =>
   (refine QC ?_;intros)
   exact⟨_,.int _ _ _,rfl⟩
def zX (op:Int):Int:=if op=2 then 2 else if op=1∨op=4∨op=7∨op=8 then 1 else if op=3∨op=5∨op=6∨op=9∨op=10 then 0 else -1
def zz (op var width next els tgt:Int) (k:Nat):Bool:=decide (((op=1∨op=3)∨var=0)∧(op=2∨width=0)∧((op=6∨op=7)∨next=0)∧(op=7∨els=0)∧(op=5∨tgt=0)∧(op=8∨k=0))
def zp (op var width next els tgt:Int) (k:Nat):Bool:=decide ((((op=1∨op=3)∨var=0)∧(op=2∨width=0)∧((op=6∨op=7)∨next=0)∧(op=7∨els=0)∧(op=5∨tgt=0)∧(op=8∨k=0))∧(0≤var∧var < 65536)∧(op=2→width=1∨width=2∨width=4)∧(op=8→1≤k∧k≤64))
theorem Qn {p q:Prop}(k:q)(h:Im q p:=by(repeat first|simp(disch:=try exact dis1) only[evD,Nat.reduceBEq,Nat.reduceAdd,Nat.reduceLeDiff,dT,dF,zU] | ((with_reducible apply Im.i);intro _) | ((with_reducible apply Im.a);omega));exact Im.r):p:=h k
theorem zmg (op:Int):zk Tryz.prog zfg [.int .i64 op] (·=.int .i64 (zX op)):=by
 refine fn_x zl2 rfl ?_;unfold zhU
 by_cases h1:op=1
 ·
  have hr:zX op=1:=by unfold zX;subst h1;rfl
  rw[hr]
  (refine Qn ?_;intros)
  exact⟨_,.int _ _ _,rfl⟩
 by_cases h4:op=4
 ·
  have hr:zX op=1:=by unfold zX;subst h4;rfl
  rw[hr]
  (refine Qn ?_;intros)
  exact⟨_,.int _ _ _,rfl⟩
 by_cases h7:op=7
 ·
  have hr:zX op=1:=by unfold zX;subst h7;rfl
  rw[hr]
  (refine Qn ?_;intros)
  exact⟨_,.int _ _ _,rfl⟩
 by_cases h8:op=8
 ·
  have hr:zX op=1:=by unfold zX;subst h8;rfl
  rw[hr]
  (refine Qn ?_;intros)
  exact⟨_,.int _ _ _,rfl⟩
 by_cases h2:op=2
 ·
  have hr:zX op=2:=by unfold zX;subst h2;rfl
  rw[hr]
  (refine Qn ?_;intros)
  exact⟨_,.int _ _ _,rfl⟩
 by_cases h3:op=3
 ·
  have hr:zX op=0:=by unfold zX;subst h3;rfl
  rw[hr]
  (refine Qn ?_;intros)
  exact⟨_,.int _ _ _,rfl⟩
 by_cases h5:op=5
 ·
  have hr:zX op=0:=by unfold zX;subst h5;rfl
  rw[hr]
  (refine Qn ?_;intros)
  exact⟨_,.int _ _ _,rfl⟩
 by_cases h6:op=6
 ·
  have hr:zX op=0:=by unfold zX;subst h6;rfl
  rw[hr]
  (refine Qn ?_;intros)
  exact⟨_,.int _ _ _,rfl⟩
 by_cases h9:op=9
 ·
  have hr:zX op=0:=by unfold zX;subst h9;rfl
  rw[hr]
  (refine Qn ?_;intros)
  exact⟨_,.int _ _ _,rfl⟩
 by_cases h10:op=10
 ·
  have hr:zX op=0:=by unfold zX;subst h10;rfl
  rw[hr]
  (refine Qn ?_;intros)
  exact⟨_,.int _ _ _,rfl⟩
 have hr:zX op = -1:=by unfold zX;rw[if_neg (by omega),if_neg (by omega),if_neg (by omega)]
 rw[hr]
 (refine Qn ?_;intros)
 exact⟨_,.int _ _ _,rfl⟩
theorem Qt {p q:Prop}(k:q)(h:Im q p:=by(repeat first|simp(disch:=try exact dis1) only[evD,Nat.reduceBEq,Nat.reduceAdd,Nat.reduceLeDiff,dT,dF,zcH] | ((with_reducible apply Im.i);intro _) | ((with_reducible apply Im.a);omega));exact Im.r):p:=h k
theorem zsz (op:Int) (h1:1≤op) (h2:op≤10):zk Tryz.prog zkW [.int .i64 op] (·=.int .i64 (zX op)):=by
 refine fn_x zsM rfl ?_;unfold zmx
 by_cases h2:op=2
 ·
  have hr:zX op=2:=by unfold zX;subst h2;rfl
  rw[hr]
  (refine Qt ?_;intros)
  exact⟨_,.int _ _ _,rfl⟩
 by_cases h1:op=1
 ·
  have hr:zX op=1:=by unfold zX;subst h1;rfl
  rw[hr]
  (refine Qt ?_;intros)
  exact⟨_,.int _ _ _,rfl⟩
 by_cases h4:op=4
 ·
  have hr:zX op=1:=by unfold zX;subst h4;rfl
  rw[hr]
  (refine Qt ?_;intros)
  exact⟨_,.int _ _ _,rfl⟩
 by_cases h7:op=7
 ·
  have hr:zX op=1:=by unfold zX;subst h7;rfl
  rw[hr]
  (refine Qt ?_;intros)
  exact⟨_,.int _ _ _,rfl⟩
 by_cases h8:op=8
 ·
  have hr:zX op=1:=by unfold zX;subst h8;rfl
  rw[hr]
  (refine Qt ?_;intros)
  exact⟨_,.int _ _ _,rfl⟩
 have hr:zX op=0:=by unfold zX;rw[if_neg (by omega),if_neg (by omega),if_pos (by omega)]
 rw[hr]
 (refine Qt ?_;intros)
 exact⟨_,.int _ _ _,rfl⟩
theorem Qd {p q:Prop}(k:q)(h:Im q p:=by(repeat first|simp(disch:=try exact dis1) only[evD,Nat.reduceBEq,Nat.reduceAdd,Nat.reduceLeDiff,dT,dF,fldP,za,zf] | ((with_reducible apply Im.i);intro _) | ((with_reducible apply Im.a);omega));exact Im.r):p:=h k
theorem zrJ (op var width next els tgt:Int) (e:List Ex) (cs:List Int) (h:op=1):zk Tryz.prog zaD [.agg [.int .i64 op,.int .i64 var,.int .i64 width,.int .i64 next,.int .i64 els,.int .u32 tgt,encL 5 encX e,za cs]] (·=.bool (zz op var width next els tgt cs.length)):=by
 refine fn_x za9 rfl ?_;unfold zaJ;have hB:=hBig
 (refine Qd ?_;intros)
 by_cases q0:width=0<;>(refine Qd ?_;intros)
 case neg =>exact⟨_,.bool _ _,congrArg AV.bool (by unfold zz;exact lb)⟩
 by_cases q1:next=0<;>(refine Qd ?_;intros)
 case neg =>exact⟨_,.bool _ _,congrArg AV.bool (by unfold zz;exact lb)⟩
 by_cases q2:els=0<;>(refine Qd ?_;intros)
 case neg =>exact⟨_,.bool _ _,congrArg AV.bool (by unfold zz;exact lb)⟩
 by_cases q3:tgt=0<;>(refine Qd ?_;intros)
 case neg =>exact⟨_,.bool _ _,congrArg AV.bool (by unfold zz;exact lb)⟩
 exact⟨_,.bool _ _,congrArg AV.bool (by unfold zz;exact lb)⟩
theorem zsR (op var width next els tgt:Int) (e:List Ex) (cs:List Int) (h:op=2):zk Tryz.prog zaD [.agg [.int .i64 op,.int .i64 var,.int .i64 width,.int .i64 next,.int .i64 els,.int .u32 tgt,encL 5 encX e,za cs]] (·=.bool (zz op var width next els tgt cs.length)):=by
 refine fn_x za9 rfl ?_;unfold zaJ;have hB:=hBig
 (refine Qd ?_;intros)
 by_cases q0:var=0<;>(refine Qd ?_;intros)
 case neg =>exact⟨_,.bool _ _,congrArg AV.bool (by unfold zz;exact lb)⟩
 by_cases q1:next=0<;>(refine Qd ?_;intros)
 case neg =>exact⟨_,.bool _ _,congrArg AV.bool (by unfold zz;exact lb)⟩
 by_cases q2:els=0<;>(refine Qd ?_;intros)
 case neg =>exact⟨_,.bool _ _,congrArg AV.bool (by unfold zz;exact lb)⟩
 by_cases q3:tgt=0<;>(refine Qd ?_;intros)
 case neg =>exact⟨_,.bool _ _,congrArg AV.bool (by unfold zz;exact lb)⟩
 exact⟨_,.bool _ _,congrArg AV.bool (by unfold zz;exact lb)⟩
theorem zsa (op var width next els tgt:Int) (e:List Ex) (cs:List Int) (h:op=3):zk Tryz.prog zaD [.agg [.int .i64 op,.int .i64 var,.int .i64 width,.int .i64 next,.int .i64 els,.int .u32 tgt,encL 5 encX e,za cs]] (·=.bool (zz op var width next els tgt cs.length)):=by
 refine fn_x za9 rfl ?_;unfold zaJ;have hB:=hBig
 (refine Qd ?_;intros)
 by_cases q0:width=0<;>(refine Qd ?_;intros)
 case neg =>exact⟨_,.bool _ _,congrArg AV.bool (by unfold zz;exact lb)⟩
 by_cases q1:next=0<;>(refine Qd ?_;intros)
 case neg =>exact⟨_,.bool _ _,congrArg AV.bool (by unfold zz;exact lb)⟩
 by_cases q2:els=0<;>(refine Qd ?_;intros)
 case neg =>exact⟨_,.bool _ _,congrArg AV.bool (by unfold zz;exact lb)⟩
 by_cases q3:tgt=0<;>(refine Qd ?_;intros)
 case neg =>exact⟨_,.bool _ _,congrArg AV.bool (by unfold zz;exact lb)⟩
 exact⟨_,.bool _ _,congrArg AV.bool (by unfold zz;exact lb)⟩
theorem zrR (op var width next els tgt:Int) (e:List Ex) (cs:List Int) (h:op=4):zk Tryz.prog zaD [.agg [.int .i64 op,.int .i64 var,.int .i64 width,.int .i64 next,.int .i64 els,.int .u32 tgt,encL 5 encX e,za cs]] (·=.bool (zz op var width next els tgt cs.length)):=by
 refine fn_x za9 rfl ?_;unfold zaJ;have hB:=hBig
 (refine Qd ?_;intros)
 by_cases q0:var=0<;>(refine Qd ?_;intros)
 case neg =>exact⟨_,.bool _ _,congrArg AV.bool (by unfold zz;exact lb)⟩
 by_cases q1:width=0<;>(refine Qd ?_;intros)
 case neg =>exact⟨_,.bool _ _,congrArg AV.bool (by unfold zz;exact lb)⟩
 by_cases q2:next=0<;>(refine Qd ?_;intros)
 case neg =>exact⟨_,.bool _ _,congrArg AV.bool (by unfold zz;exact lb)⟩
 by_cases q3:els=0<;>(refine Qd ?_;intros)
 case neg =>exact⟨_,.bool _ _,congrArg AV.bool (by unfold zz;exact lb)⟩
 by_cases q4:tgt=0<;>(refine Qd ?_;intros)
 case neg =>exact⟨_,.bool _ _,congrArg AV.bool (by unfold zz;exact lb)⟩
 exact⟨_,.bool _ _,congrArg AV.bool (by unfold zz;exact lb)⟩
theorem zry (op var width next els tgt:Int) (e:List Ex) (cs:List Int) (h:op=5):zk Tryz.prog zaD [.agg [.int .i64 op,.int .i64 var,.int .i64 width,.int .i64 next,.int .i64 els,.int .u32 tgt,encL 5 encX e,za cs]] (·=.bool (zz op var width next els tgt cs.length)):=by
 refine fn_x za9 rfl ?_;unfold zaJ;have hB:=hBig
 (refine Qd ?_;intros)
 by_cases q0:var=0<;>(refine Qd ?_;intros)
 case neg =>exact⟨_,.bool _ _,congrArg AV.bool (by unfold zz;exact lb)⟩
 by_cases q1:width=0<;>(refine Qd ?_;intros)
 case neg =>exact⟨_,.bool _ _,congrArg AV.bool (by unfold zz;exact lb)⟩
 by_cases q2:next=0<;>(refine Qd ?_;intros)
 case neg =>exact⟨_,.bool _ _,congrArg AV.bool (by unfold zz;exact lb)⟩
 by_cases q3:els=0<;>(refine Qd ?_;intros)
 case neg =>exact⟨_,.bool _ _,congrArg AV.bool (by unfold zz;exact lb)⟩
 exact⟨_,.bool _ _,congrArg AV.bool (by unfold zz;exact lb)⟩
theorem zrb (op var width next els tgt:Int) (e:List Ex) (cs:List Int) (h:op=6):zk Tryz.prog zaD [.agg [.int .i64 op,.int .i64 var,.int .i64 width,.int .i64 next,.int .i64 els,.int .u32 tgt,encL 5 encX e,za cs]] (·=.bool (zz op var width next els tgt cs.length)):=by
 refine fn_x za9 rfl ?_;unfold zaJ;have hB:=hBig
 (refine Qd ?_;intros)
 by_cases q0:var=0<;>(refine Qd ?_;intros)
 case neg =>exact⟨_,.bool _ _,congrArg AV.bool (by unfold zz;exact lb)⟩
 by_cases q1:width=0<;>(refine Qd ?_;intros)
 case neg =>exact⟨_,.bool _ _,congrArg AV.bool (by unfold zz;exact lb)⟩
 by_cases q2:els=0<;>(refine Qd ?_;intros)
 case neg =>exact⟨_,.bool _ _,congrArg AV.bool (by unfold zz;exact lb)⟩
 by_cases q3:tgt=0<;>(refine Qd ?_;intros)
 case neg =>exact⟨_,.bool _ _,congrArg AV.bool (by unfold zz;exact lb)⟩
 exact⟨_,.bool _ _,congrArg AV.bool (by unfold zz;exact lb)⟩
theorem zsm (op var width next els tgt:Int) (e:List Ex) (cs:List Int) (h:op=7):zk Tryz.prog zaD [.agg [.int .i64 op,.int .i64 var,.int .i64 width,.int .i64 next,.int .i64 els,.int .u32 tgt,encL 5 encX e,za cs]] (·=.bool (zz op var width next els tgt cs.length)):=by
 refine fn_x za9 rfl ?_;unfold zaJ;have hB:=hBig
 (refine Qd ?_;intros)
 by_cases q0:var=0<;>(refine Qd ?_;intros)
 case neg =>exact⟨_,.bool _ _,congrArg AV.bool (by unfold zz;exact lb)⟩
 by_cases q1:width=0<;>(refine Qd ?_;intros)
 case neg =>exact⟨_,.bool _ _,congrArg AV.bool (by unfold zz;exact lb)⟩
 by_cases q2:tgt=0<;>(refine Qd ?_;intros)
 case neg =>exact⟨_,.bool _ _,congrArg AV.bool (by unfold zz;exact lb)⟩
 exact⟨_,.bool _ _,congrArg AV.bool (by unfold zz;exact lb)⟩
theorem zsf (op var width next els tgt:Int) (e:List Ex) (cs:List Int) (h:op=8):zk Tryz.prog zaD [.agg [.int .i64 op,.int .i64 var,.int .i64 width,.int .i64 next,.int .i64 els,.int .u32 tgt,encL 5 encX e,za cs]] (·=.bool (zz op var width next els tgt cs.length)):=by
 refine fn_x za9 rfl ?_;unfold zaJ;have hB:=hBig
 (refine Qd ?_;intros)
 by_cases q0:var=0<;>(refine Qd ?_;intros)
 case neg =>exact⟨_,.bool _ _,congrArg AV.bool (by unfold zz;exact lb)⟩
 by_cases q1:width=0<;>(refine Qd ?_;intros)
 case neg =>exact⟨_,.bool _ _,congrArg AV.bool (by unfold zz;exact lb)⟩
 by_cases q2:next=0<;>(refine Qd ?_;intros)
 case neg =>exact⟨_,.bool _ _,congrArg AV.bool (by unfold zz;exact lb)⟩
 by_cases q3:els=0<;>(refine Qd ?_;intros)
 case neg =>exact⟨_,.bool _ _,congrArg AV.bool (by unfold zz;exact lb)⟩
 by_cases q4:tgt=0<;>(refine Qd ?_;intros)
 case neg =>exact⟨_,.bool _ _,congrArg AV.bool (by unfold zz;exact lb)⟩
 exact⟨_,.bool _ _,congrArg AV.bool (by unfold zz;exact lb)⟩
theorem zsr (op var width next els tgt:Int) (e:List Ex) (cs:List Int) (h:op=9):zk Tryz.prog zaD [.agg [.int .i64 op,.int .i64 var,.int .i64 width,.int .i64 next,.int .i64 els,.int .u32 tgt,encL 5 encX e,za cs]] (·=.bool (zz op var width next els tgt cs.length)):=by
 refine fn_x za9 rfl ?_;unfold zaJ;have hB:=hBig
 (refine Qd ?_;intros)
 by_cases q0:var=0<;>(refine Qd ?_;intros)
 case neg =>exact⟨_,.bool _ _,congrArg AV.bool (by unfold zz;exact lb)⟩
 by_cases q1:width=0<;>(refine Qd ?_;intros)
 case neg =>exact⟨_,.bool _ _,congrArg AV.bool (by unfold zz;exact lb)⟩
 by_cases q2:next=0<;>(refine Qd ?_;intros)
 case neg =>exact⟨_,.bool _ _,congrArg AV.bool (by unfold zz;exact lb)⟩
 by_cases q3:els=0<;>(refine Qd ?_;intros)
 case neg =>exact⟨_,.bool _ _,congrArg AV.bool (by unfold zz;exact lb)⟩
 by_cases q4:tgt=0<;>(refine Qd ?_;intros)
 case neg =>exact⟨_,.bool _ _,congrArg AV.bool (by unfold zz;exact lb)⟩
 exact⟨_,.bool _ _,congrArg AV.bool (by unfold zz;exact lb)⟩
theorem zqY (op var width next els tgt:Int) (e:List Ex) (cs:List Int) (h:op=10):zk Tryz.prog zaD [.agg [.int .i64 op,.int .i64 var,.int .i64 width,.int .i64 next,.int .i64 els,.int .u32 tgt,encL 5 encX e,za cs]] (·=.bool (zz op var width next els tgt cs.length)):=by
 refine fn_x za9 rfl ?_;unfold zaJ;have hB:=hBig
 (refine Qd ?_;intros)
 by_cases q0:var=0<;>(refine Qd ?_;intros)
 case neg =>exact⟨_,.bool _ _,congrArg AV.bool (by unfold zz;exact lb)⟩
 by_cases q1:width=0<;>(refine Qd ?_;intros)
 case neg =>exact⟨_,.bool _ _,congrArg AV.bool (by unfold zz;exact lb)⟩
 by_cases q2:next=0<;>(refine Qd ?_;intros)
 case neg =>exact⟨_,.bool _ _,congrArg AV.bool (by unfold zz;exact lb)⟩
 by_cases q3:els=0<;>(refine Qd ?_;intros)
 case neg =>exact⟨_,.bool _ _,congrArg AV.bool (by unfold zz;exact lb)⟩
 by_cases q4:tgt=0<;>(refine Qd ?_;intros)
 case neg =>exact⟨_,.bool _ _,congrArg AV.bool (by unfold zz;exact lb)⟩
 exact⟨_,.bool _ _,congrArg AV.bool (by unfold zz;exact lb)⟩
theorem zqI (op var width next els tgt:Int) (e:List Ex) (cs:List Int) (h1:1≤op) (h2:op≤10):zk Tryz.prog zaD [.agg [.int .i64 op,.int .i64 var,.int .i64 width,.int .i64 next,.int .i64 els,.int .u32 tgt,encL 5 encX e,za cs]] (·=.bool (zz op var width next els tgt cs.length)):=by
 by_cases h10:op=1
 · exact zrJ op var width next els tgt e cs h10
 by_cases h20:op=2
 · exact zsR op var width next els tgt e cs h20
 by_cases h30:op=3
 · exact zsa op var width next els tgt e cs h30
 by_cases h40:op=4
 · exact zrR op var width next els tgt e cs h40
 by_cases h50:op=5
 · exact zry op var width next els tgt e cs h50
 by_cases h60:op=6
 · exact zrb op var width next els tgt e cs h60
 by_cases h70:op=7
 · exact zsm op var width next els tgt e cs h70
 by_cases h80:op=8
 · exact zsf op var width next els tgt e cs h80
 by_cases h90:op=9
 · exact zsr op var width next els tgt e cs h90
 by_cases h100:op=10
 · exact zqY op var width next els tgt e cs h100
 omega
end Go.Ab
