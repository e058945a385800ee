/-
  Part 8 of the proof: how the calls of this program run, over values instead of memory, and what each function computes.
-/
import Derived.Test.YtjcbhpmmngfmeaaGreatKg
set_option maxRecDepth 100000
set_option linter.unusedVariables false
set_option linter.unusedSimpArgs false
set_option linter.unnecessarySimpa false
set_option linter.unusedSectionVars false
open Bool renaming and_false→Wa,and_true→Wd,and_eq_true→Wr
open List renaming length_append→Wc,all_eq_not_any_not→We,append_assoc→Wf,length_cons→Wg,map_append→Wh,length_nil→Wi,drop_eq_getElem_cons→Wk,cons_append→Wm,singleton_append→Wn,nil_append→Wo,append_nil→Wp,getElem_mem→Wq,reverse_cons→Ws,reverse_nil→Wt,reverse_singleton→Wu,reverse_append→Wv,eq_nil_of_length_eq_zero→Ww,drop_of_length_le→Wx,findIdx?_eq_some_iff_getElem→Wy,findIdx?_eq_none_iff→Wz
open Nat renaming zero_le→Wj,le_refl→Wl
namespace Go.Ab
open Go.RowKit Go.Proofs
def One (p:NdF→List Int):Prop:=∀f,(p f).length≤1
theorem zvd:One labP:=fun f=>by unfold labP;split<;>simp
theorem zAR:One blkP:=fun f=>by unfold blkP;split<;>simp
mutual
theorem znW {p:NdF→List Int} (h:One p):∀n:Nd,(coll p n).length≤zaJ n
 | .mk f _ l=>by rw[coll,Wc,zaJ];have:=h f;have:=zsi h l;omega
theorem zsi {p:NdF→List Int} (h:One p):∀l:List Nd,(zsF p l).length≤zaj l
 | []=>by rw[zsF];simp
 | x::l=>by rw[zsF,Wc,zaj];have:=znW h x;have:=zsi h l;omega
end
theorem zp6 {l:List Int} {H:AH}:zdt 1 (encL 1 (fun n=>[.int .i64 n]) l) H=some (l.map cI):=zp3 (fun _ _=>rfl)
theorem znr:∀l m:List Nd,zem (l++m)=zem l++zem m
 | [],m=>by rw[zem];rfl
 | x::l,m=>by rw[Wm,zem,zem,znr l m,Wf]
theorem zcZ:∀l m:List Nd,zaj (l++m)=zaj l+zaj m
 | [],m=>by rw[zaj];simp
 | x::l,m=>by rw[Wm,zaj,zaj,zcZ l m];omega
theorem zxv:∀n:Nd,1≤zaJ n
 | .mk _ _ _=>by rw[zaJ];omega
theorem zka:∀l:List Nd,l.length≤zaj l
 | []=>by rw[zaj];simp
 | x::l=>by rw[Wg,zaj];have:=zka l;have:=zxv x;omega
theorem zpQ (l:List Nd):zaj l.reverse=zaj l:=by
 induction l with
 | nil=>rfl
 | cons a l ih=>rw[Ws,zcZ,ih];simp only[zaj];omega
theorem zBj {H H2:AH} {σ:Nat→Nat→Option (Nat × Nat × Nat)} {D:Nat→Nat→Prop} {t:Bool}:∀(e:Nd) (j:Nat),j < 5→Vw H H2 σ D t ((encN e).getD j .undef) ((encN e).getD j .undef)
 |
  .mk _ _ _,j,hj=>by
  rw[zeT]
  match j,hj with
  | 0,_=>exact .int _ _ _
  | 1,_=>exact .int _ _ _
  | 2,_=>exact .int _ _ _
  | 3,_=>exact .sl _ _ _ _
  | 4,_=>exact .sl _ _ _ _
theorem zBo {H H2:AH} {σ:Nat→Nat→Option (Nat × Nat × Nat)} {D:Nat→Nat→Prop} {t:Bool} {r q g:Nat} {l:List Nd} (hD:D r q) (hg:H.get r q=some (.row 5 (l.map encN) g)) (hb:l.length≤big):Vw H H2 σ D t (.own r q g 0 l.length) (encL 5 encN l) :=
 zot hD hg hb fun a _ j hj=>zBj a j hj
theorem Qv {p q:Prop}(k:q)(h:Im q p:=by(repeat first|simp(disch:=try exact dis1) only[evD,Nat.reduceBEq,Nat.reduceAdd,Nat.reduceLeDiff,zb1,zd,zbp] | ((with_reducible apply Im.i);intro _) | ((with_reducible apply Im.a);omega));exact Im.r):p:=h k
theorem Qa {p q:Prop}(k:q)(h:Im q p:=by(repeat first|simp(disch:=try exact dis1) only[evD,Nat.reduceBEq,Nat.reduceAdd,Nat.reduceLeDiff] | ((with_reducible apply Im.i);intro _) | ((with_reducible apply Im.a);omega));exact Im.r):p:=h k
theorem Qk {p q:Prop}(k:q)(h:Im q p:=by(repeat first|simp(disch:=try exact dis1) only[evD,Nat.reduceBEq,Nat.reduceAdd,Nat.reduceLeDiff,dF] | ((with_reducible apply Im.i);intro _) | ((with_reducible apply Im.a);omega));exact Im.r):p:=h k
theorem Qax {p:Prop}(h:p:=by(try simp only[evWB,Nat.reduceBEq,Nat.reduceAdd,Nat.reduceSub,Nat.reduceLeDiff,Nat.reduceLT,implies_true,zd])<;>exact fin1):p:=h
theorem Qay {p:Prop}(h:p:=by(try simp only[evWB,Nat.reduceBEq,Nat.reduceAdd,Nat.reduceSub,Nat.reduceLeDiff,Nat.reduceLT,implies_true,List.length_append,List.map_append,List.append_assoc,List.singleton_append])<;>exact fin2):p:=h
theorem Qaz {p:Prop}(h:p:=by(try simp only[evWB,Nat.reduceBEq,Nat.reduceAdd,Nat.reduceSub,Nat.reduceLeDiff,Nat.reduceLT,implies_true,List.length_append,List.map_append,List.append_assoc,List.singleton_append,List.drop_length,List.reverse_nil,Nat.sub_zero,List.nil_append])<;>exact fin2):p:=h
theorem Qba {p:Prop}(h:p:=by(try simp only[evWB,Nat.reduceBEq,Nat.reduceAdd,Nat.reduceSub,Nat.reduceLeDiff,Nat.reduceLT,implies_true,List.length_append,List.map_append,List.append_assoc,List.append_nil,List.map_cons,List.map_nil,List.length_cons,List.length_nil])<;>exact fin2):p:=h
theorem Qap {p:Prop}(h:p:=by(try simp only[evWB,Nat.reduceBEq,Nat.reduceAdd,Nat.reduceSub,Nat.reduceLeDiff,Nat.reduceLT,implies_true])<;>exact fin2):p:=h
theorem ziX (e:Nd) (hs:zaJ e≤1000):zr Tryz.prog zd0 [.agg (encN e)] (·=encL 5 encN (allN e)):=by
 refine fn_x znM rfl ?_;unfold ziU;have hB:=hBig;generalize hR:allN e=R
 have hRl:R.length≤1000:=by rw[←hR,znV];exact hs
 (refine Qv ?_;intros)
 refine zq (fun s:List Nd × List Nd × List Nd=>([(3,.own 0 0 0 0 s.1.length),(4,.own 1 0 0 0 s.2.1.length)],[(0,.row 5 (s.1.map encN) 0),(1,.row 5 ((s.2.1++s.2.2).map encN) 0)])) 2 (fun s=>s.1++zem s.2.1.reverse=R∧s.1.length+zaj s.2.1≤1000) (fun s=>zaj s.2.1) ([],[e],[]) ⟨by simp only[Wu,Wo,zem,Wp];exact hR,by simp only[zaj,Wi];omega⟩ (Ent.tab [(0,1,0),(1,2,0)] [] rfl Qax Qax) ?_;rintro⟨out,rest,junk⟩ ⟨hgo,hsz⟩ wf;simp only at hgo hsz;unfold zgW;have hlr:=zka rest
 by_cases hr:0 < rest.length
 ·
  obtain⟨r,x,rfl⟩:∃r x,rest=r++[x]:=⟨rest.dropLast,rest.getLast (by intro h;rw[h] at hr;simp at hr),(List.dropLast_concat_getLast _).symm⟩
  have hlen:(r++[x]).length=r.length+1:=by simp
  have hidx:(((r.length+1:Nat):Int) - 1).toNat=r.length:=by omega
  have hget:(List.map encN (r++[x]++junk)).getD r.length []=encN x:=by rw[Wf,Wh,List.getD_eq_getElem?_getD,List.getElem?_append_right (by simp)];simp
  have hll:(r++[x]++junk).length=r.length+1+junk.length:=by simp;omega
  rw[zcZ] at hsz;rw[Wv,Wu,Wn,zem] at hgo;obtain⟨⟨kd,bl,lb⟩,c,l⟩:=x;simp only[zaj,zaJ,Nat.add_zero] at hsz;rw[allN,←Wf] at hgo;generalize hE:encN (Nd.mk ⟨kd,bl,lb⟩ c l)=E at hget;have hE':=hE;rw[zeT] at hE';simp only at hE';subst hE';rw[hlen] at hlr
  (repeat first|simp(disch:=try exact dis1) only[evD,Nat.reduceBEq,Nat.reduceAdd,Nat.reduceLeDiff,dT,hidx,hget,hll,hlen,Wg,Wi]|with_reducible first|intro _|refine aJ ?_)
  have hn4:((((r.length+1:Nat):Int)) - 1 - 0).toNat=r.length:=by omega
  simp only[hn4,Int.toNat_zero];simp only[←hE] at hget ⊢
  have h4:(encN (Nd.mk ⟨kd,bl,lb⟩ c l)).getD 4 .undef=encL 5 encN l:=by rw[hE];rfl
  have hX:List.map encN out++[encN (Nd.mk ⟨kd,bl,lb⟩ c l)]=List.map encN (out++[Nd.mk ⟨kd,bl,lb⟩ c l]):=by simp
  (refine zE (fun hc=>?_) (fun hc=>?_))<;>(try simp only[dcd] at hc)
  ·
   have hl0:l=[]:=Ww (by omega);subst hl0;rw[zem] at hgo
   (refine Qa ?_;intros)
   exact⟨(out++[Nd.mk ⟨kd,bl,lb⟩ c []],r,Nd.mk ⟨kd,bl,lb⟩ c []::junk),⟨hgo,by simp only[Wc,Wg,Wi];simp only[zaj] at hsz;omega⟩,by simp only[zcZ,zaj,zaJ];omega,(Ent.tab [(0,0,1),(1,1,0)] [] rfl Qay Qay)⟩
  ·
   have hl0:0 < l.length:=by omega
   (repeat first|simp(disch:=try exact dis1) only[evD,Nat.reduceBEq,Nat.reduceAdd,Nat.reduceLeDiff,fldP,h4]|with_reducible first|intro _|refine aJ ?_)
   refine zq (fun s:Nat × List Nd=>([(3,.own 0 0 0 0 (out++[Nd.mk ⟨kd,bl,lb⟩ c l]).length),(4,.own 1 0 0 0 (r++(l.drop (l.length - s.1)).reverse).length),(5,.ptr 2 0 0 0 0),(6,.int .i64 ((l.length:Int) - 1 - s.1))],[(0,.row 5 ((out++[Nd.mk ⟨kd,bl,lb⟩ c l]).map encN) 0),(1,.row 5 ((r++(l.drop (l.length - s.1)).reverse++s.2).map encN) 0),(2,.row 5 [encN (Nd.mk ⟨kd,bl,lb⟩ c l)] 0)])) 3 (fun s=>s.1≤l.length) (fun s=>l.length - s.1) (0,Nd.mk ⟨kd,bl,lb⟩ c l::junk) (Wj _) (Ent.tab [(0,0,1),(1,1,0),(2,2,0)] [] rfl Qaz Qaz) ?_;rintro⟨j,jk⟩ hj wf2;simp only at hj;unfold zg2
   by_cases hjl:j < l.length
   ·
    have hix:((l.length:Int) - 1 - (j:Int)).toNat=l.length - 1 - j:=by omega
    have hlt:l.length - 1 - j < l.length:=by omega
    have hD:((l.drop (l.length - j)).reverse).length=j:=by simp;omega
    have hst:(l.drop (l.length - (j+1))).reverse=(l.drop (l.length - j)).reverse++[l[l.length - 1 - j]]:=by rw[show l.length - (j+1)=l.length - 1 - j by omega,Wk hlt,Ws,show l.length - 1 - j+1=l.length - j by omega]
    generalize hDD:(l.drop (l.length - j)).reverse=D at *
    have htk:List.take (r++D).length (List.map encN (r++D++jk))=List.map encN (r++D):=by rw[Wh (l₁:=r++D),List.take_left' (by simp)]
    have hll2:(r++D).length=r.length+j:=by rw[Wc,hD]
    have hlr2:r.length≤1000:=by have:=zka r;omega
    have hll3:l.length≤1000:=by have:=zka l;omega
    (repeat first|simp(disch:=try exact dis1) only[evD,Nat.reduceBEq,Nat.reduceAdd,Nat.reduceLeDiff,dT,fldP,h4,hix,zp hlt,zb1,zbp,htk]|with_reducible first|intro _|refine aJ ?_)
    refine⟨⟨by simp,by omega⟩,(j+1,[]),by simp only;omega,by simp only;omega,?_⟩;simp only[hst];exact(Ent.tab [(0,0,0),(1,1,1),(2,2,0)] [] rfl Qba Qba)
   ·
    have hj2:j=l.length:=by omega
    subst hj2;simp only[Nat.sub_self,List.drop_zero]
    (refine Qk ?_;intros)
    have hsl:=zpQ l;refine⟨(out++[Nd.mk ⟨kd,bl,lb⟩ c l],r++l.reverse,jk),⟨?_,?_⟩,?_,(Ent.tab [(0,0,0),(1,1,0)] [] rfl Qap Qap)⟩
    · simp only[Wv,List.reverse_reverse,znr];rw[←Wf];rw[←hgo];simp
    · simp only[Wc,Wg,Wi,zcZ,hsl];omega
    · simp only[zcZ,hsl,zaj,zaJ];omega
 ·
  rw[show rest=[] from Ww (by omega),Wt,zem,Wp] at hgo;subst hgo
  (refine Qk ?_;intros)
  unfold zgP
  (repeat first|simp(disch:=try exact dis1) only[evD,Nat.reduceBEq,Nat.reduceAdd,Nat.reduceLeDiff,ziS]|with_reducible first|intro _|refine aJ ?_)
  exact⟨_,zBo (l:=out) trivial rfl (by omega),rfl⟩
def fm (p:NdF→List Int) (l:List Nd):List Int:=l.flatMap fun x=>p x.f
theorem zCm {p:NdF→List Int} {l:List Nd} {i:Nat} (h:i < l.length):fm p (l.drop i)=p l[i].f++fm p (l.drop (i+1)):=by rw[Wk h,fm,List.flatMap_cons];rfl
theorem zsQ (p:NdF→List Int) (n:Nd):fm p (allN n)=coll p n:=(zvM p n).symm
theorem zzh (p:NdF→List Int):fm p []=[]:=rfl
theorem zF {n:Nat} {c:List AV} (h:zA c=true):zC (List.replicate n c):=fun d hd=>by rw[List.eq_of_mem_replicate hd];exact h
def zrf (v:Int):Bool:=decide (0≤v∧v < 65536)
def zq8 (w:Int):Bool:=decide (w=1∨w=2∨w=4)
theorem zhG (v:Int):zr Tryz.prog zgh [.int .i64 v] (·=.bool (zrf v)):=by
 refine fn_x zpZ rfl ?_;unfold zkQ zrf
 by_cases h1:0≤v
 ·
  (repeat first|simp(disch:=try exact dis1) only[evD,Nat.reduceBEq,Nat.reduceAdd,Nat.reduceLeDiff,dT,zhM]|with_reducible first|intro _|refine aJ ?_)
  exact⟨_,.bool _ _,congrArg _ (decide_eq_decide.2 (by omega))⟩
 ·
  (repeat first|simp(disch:=try exact dis1) only[evD,Nat.reduceBEq,Nat.reduceAdd,Nat.reduceLeDiff,dF,zhM]|with_reducible first|intro _|refine aJ ?_)
  exact⟨_,.bool _ _,rfl⟩
theorem znu (v:Int):zr Tryz.prog ziJ [.int .i64 v] (·=.bool (zrf v)):=by
 refine fn_x zsu rfl ?_;unfold znb zrf
 by_cases h1:0≤v
 ·
  (repeat first|simp(disch:=try exact dis1) only[evD,Nat.reduceBEq,Nat.reduceAdd,Nat.reduceLeDiff,dT,zjE]|with_reducible first|intro _|refine aJ ?_)
  exact⟨_,.bool _ _,congrArg _ (decide_eq_decide.2 (by omega))⟩
 ·
  (repeat first|simp(disch:=try exact dis1) only[evD,Nat.reduceBEq,Nat.reduceAdd,Nat.reduceLeDiff,dF,zjE]|with_reducible first|intro _|refine aJ ?_)
  exact⟨_,.bool _ _,rfl⟩
theorem zm5 (w:Int):zr Tryz.prog zit [.int .i64 w] (·=.bool (zq8 w)):=by
 refine fn_x zsJ rfl ?_;unfold znq zq8
 by_cases h1:w=1
 ·
  (repeat first|simp(disch:=try exact dis1) only[evD,Nat.reduceBEq,Nat.reduceAdd,Nat.reduceLeDiff,dT,zhw]|with_reducible first|intro _|refine aJ ?_)
  exact⟨_,.bool _ _,rfl⟩
 by_cases h2:w=2
 ·
  (repeat first|simp(disch:=try exact dis1) only[evD,Nat.reduceBEq,Nat.reduceAdd,Nat.reduceLeDiff,dF,dT,zhw]|with_reducible first|intro _|refine aJ ?_)
  exact⟨_,.bool _ _,rfl⟩
 ·
  (repeat first|simp(disch:=try exact dis1) only[evD,Nat.reduceBEq,Nat.reduceAdd,Nat.reduceLeDiff,dF,zhw]|with_reducible first|intro _|refine aJ ?_)
  exact⟨_,.bool _ _,congrArg _ (decide_eq_decide.2 (by omega))⟩
mutual
def zow:Ex→Int→Bool
 | .mk _ _ _ _ l,m=>if m < 1 then true else zmd l (m - 1)
def zmd:List Ex→Int→Bool
 | [],_=>false
 | e::l,m=>zow e m||zmd l m
end
theorem zqq:∀(l:List Ex) (m:Int),zmd l m=l.any (zow · m)
 | [],m=>by rw[zmd];rfl
 | e::l,m=>by rw[zmd,zqq l m];rfl
def zt (op n v w:Int) (k:Nat):Bool:=decide ((op=1∧v=0∧w=0∧k=0)∨(op=2∧n=0∧w=0∧k=0∧0≤v∧v < 65536)∨((op=16∨op=17)∧n=0∧v=0∧w=0∧k=1)∨(op=18∧n=0∧v=0∧(w=1∨w=2∨w=4)∧k=1)∨(op=19∧n=0∧v=0∧(w=1∨w=2)∧k=1)∨(3≤op∧op≤15∧n=0∧v=0∧w=0∧k=2))
mutual
def zg5:Ex→Bool
 | .mk op n v w l=>zdN l&&zt op n v w l.length
def zdN:List Ex→Bool
 | []=>true
 | e::l=>zg5 e&&zdN l
end
theorem zc7:∀(l:List Ex),zdN l=l.all zg5
 | []=>by rw[zdN];rfl
 | e::l=>by rw[zdN,zc7 l];rfl
def ziQ (e:Ex):Int:=if zow e 64=true then 20 else if zg5 e=true then 0 else 2
theorem Qi {p q:Prop}(k:q)(h:Im q p:=by(repeat first|simp(disch:=try exact dis1) only[evD,Nat.reduceBEq,Nat.reduceAdd,Nat.reduceLeDiff,fldP,dF] | ((with_reducible apply Im.i);intro _) | ((with_reducible apply Im.a);omega));exact Im.r):p:=h k
theorem QL {p q:Prop}(k:q)(h:Im q p:=by(repeat first|simp(disch:=try exact dis1) only[evD,Nat.reduceBEq,Nat.reduceAdd,Nat.reduceLeDiff,zgb] | ((with_reducible apply Im.i);intro _) | ((with_reducible apply Im.a);omega));exact Im.r):p:=h k
theorem zrC:∀(k:Nat) (e:Ex) (m:Int),zg4 e≤k → -1000≤m→m≤1000→zr Tryz.prog zhg [.agg (encX e),.int .i64 m] (·=.bool (zow e m)):=by
 intro k
 induction k with
 | zero=>intro e m h;obtain⟨_,_,_,_,l⟩:=e;rw[zg4] at h;omega
 | succ k ih =>
 intro e m hk hm1 hm2;obtain⟨op,nn,v,w,l⟩:=e;refine fn_x zq6 rfl ?_;unfold zmh;have hB:=hBig;rw[zg4] at hk;rw[zhH,zow]
 by_cases h1:m < 1
 ·
  rw[if_pos h1]
  (repeat first|simp(disch:=try exact dis1) only[evD,Nat.reduceBEq,Nat.reduceAdd,Nat.reduceLeDiff,fldP,dT,zgb]|with_reducible first|intro _|refine aJ ?_)
  exact⟨_,.bool _ _,rfl⟩
 ·
  rw[if_neg h1]
  (refine Qi ?_;intros)
  generalize hR:zmd l (m - 1)=R;refine zq (fun i:Nat=>([(1,.int .i64 m),(2,encP 5 [.int .i64 op,.int .u32 nn,.int .i64 v,.int .i64 w,encL 5 encX l]),(5,.int .i64 i)],[])) 0 (fun i=>i≤l.length∧zmd (l.drop i) (m - 1)=R) (fun i=>l.length - i) 0 ⟨Wj _,hR⟩ (Ent.keep rfl fin5) ?_;rintro i ⟨hi,hgo⟩ wf;unfold zi5
  by_cases hl:i < l.length
  ·
   have hm:=zhW (Wq hl);rw[Wk hl,zmd] at hgo
   (repeat first|simp(disch:=try exact dis1) only[evD,Nat.reduceBEq,Nat.reduceAdd,Nat.reduceLeDiff,fldP,dT,zp hl,zb2,zbx]|with_reducible first|intro _|refine aJ ?_)
   refine zh (zm (ih l[i] (m - 1) (by omega) (by omega) (by omega)) (flX rfl)) ?_
   cases hd:zow l[i] (m - 1) with
   |
    true =>
    rw[hd,Bool.true_or] at hgo;subst hgo
    (refine QL ?_;intros)
    exact⟨_,.bool _ _,rfl⟩
   |
    false =>
    rw[hd,Bool.false_or] at hgo
    (refine Qa ?_;intros)
    exact⟨i+1,⟨by omega,hgo⟩,by omega,Ent.keep rfl fin5⟩
  ·
   rw[Wx (by omega),zmd] at hgo;subst hgo
   (refine Qi ?_;intros)
   unfold ziZ
   (refine QL ?_;intros)
   exact⟨_,.bool _ _,rfl⟩
theorem Qh {p q:Prop}(k:q)(h:Im q p:=by(repeat first|simp(disch:=try exact dis1) only[evD,Nat.reduceBEq,Nat.reduceAdd,Nat.reduceLeDiff,dT,dF,fldP,zj] | ((with_reducible apply Im.i);intro _) | ((with_reducible apply Im.a);omega));exact Im.r):p:=h k
theorem zpp {op nn v w i:Int} {l:List Ex} (h:op=1) :
  wpX Tryz.prog 0 zP (retK zj fun v' H' x=>∃a,Frz H' v' a∧a=.bool (zt op nn v w l.length)) [(1,encP 5 [.int .i64 op,.int .u32 nn,.int .i64 v,.int .i64 w,encL 5 encX l]),(3,.int .i64 i),(8,.bool false)] [] 0:=by
 unfold zP;have hB:=hBig
 (refine Qh ?_;intros)
 by_cases q0:v=0<;>(refine Qh ?_;intros)
 case neg =>unfold zt;exact⟨_,.bool _ _,congrArg AV.bool lb⟩
 by_cases q1:w=0<;>(refine Qh ?_;intros)
 case neg =>unfold zt;exact⟨_,.bool _ _,congrArg AV.bool lb⟩
 unfold zt;exact⟨_,.bool _ _,congrArg AV.bool lb⟩
theorem zoa {op nn v w i:Int} {l:List Ex} (h:op=2) :
  wpX Tryz.prog 0 zP (retK zj fun v' H' x=>∃a,Frz H' v' a∧a=.bool (zt op nn v w l.length)) [(1,encP 5 [.int .i64 op,.int .u32 nn,.int .i64 v,.int .i64 w,encL 5 encX l]),(3,.int .i64 i),(8,.bool false)] [] 0:=by
 unfold zP;have hB:=hBig
 (refine Qh ?_;intros)
 by_cases q0:nn=0<;>(refine Qh ?_;intros)
 case neg =>unfold zt;exact⟨_,.bool _ _,congrArg AV.bool lb⟩
 by_cases q1:w=0<;>(refine Qh ?_;intros)
 case neg =>unfold zt;exact⟨_,.bool _ _,congrArg AV.bool lb⟩
 by_cases q2:l.length=0<;>(refine Qh ?_;intros)
 case neg =>unfold zt;exact⟨_,.bool _ _,congrArg AV.bool lb⟩
 refine zh (zm (znu v) rfl) ?_;unfold zrf
 (refine Qh ?_;intros)
 unfold zt;exact⟨_,.bool _ _,congrArg AV.bool lb⟩
theorem zpr {op nn v w i:Int} {l:List Ex} (h:op=16) :
  wpX Tryz.prog 0 zP (retK zj fun v' H' x=>∃a,Frz H' v' a∧a=.bool (zt op nn v w l.length)) [(1,encP 5 [.int .i64 op,.int .u32 nn,.int .i64 v,.int .i64 w,encL 5 encX l]),(3,.int .i64 i),(8,.bool false)] [] 0:=by
 unfold zP;have hB:=hBig
 (refine Qh ?_;intros)
 by_cases q0:nn=0<;>(refine Qh ?_;intros)
 case neg =>unfold zt;exact⟨_,.bool _ _,congrArg AV.bool lb⟩
 by_cases q1:v=0<;>(refine Qh ?_;intros)
 case neg =>unfold zt;exact⟨_,.bool _ _,congrArg AV.bool lb⟩
 by_cases q2:w=0<;>(refine Qh ?_;intros)
 case neg =>unfold zt;exact⟨_,.bool _ _,congrArg AV.bool lb⟩
 unfold zt;exact⟨_,.bool _ _,congrArg AV.bool lb⟩
theorem zom {op nn v w i:Int} {l:List Ex} (h:op=17) :
  wpX Tryz.prog 0 zP (retK zj fun v' H' x=>∃a,Frz H' v' a∧a=.bool (zt op nn v w l.length)) [(1,encP 5 [.int .i64 op,.int .u32 nn,.int .i64 v,.int .i64 w,encL 5 encX l]),(3,.int .i64 i),(8,.bool false)] [] 0:=by
 unfold zP;have hB:=hBig
 (refine Qh ?_;intros)
 by_cases q0:nn=0<;>(refine Qh ?_;intros)
 case neg =>unfold zt;exact⟨_,.bool _ _,congrArg AV.bool lb⟩
 by_cases q1:v=0<;>(refine Qh ?_;intros)
 case neg =>unfold zt;exact⟨_,.bool _ _,congrArg AV.bool lb⟩
 by_cases q2:w=0<;>(refine Qh ?_;intros)
 case neg =>unfold zt;exact⟨_,.bool _ _,congrArg AV.bool lb⟩
 unfold zt;exact⟨_,.bool _ _,congrArg AV.bool lb⟩
theorem zon {op nn v w i:Int} {l:List Ex} (h:op=18) :
  wpX Tryz.prog 0 zP (retK zj fun v' H' x=>∃a,Frz H' v' a∧a=.bool (zt op nn v w l.length)) [(1,encP 5 [.int .i64 op,.int .u32 nn,.int .i64 v,.int .i64 w,encL 5 encX l]),(3,.int .i64 i),(8,.bool false)] [] 0:=by
 unfold zP;have hB:=hBig
 (refine Qh ?_;intros)
 by_cases q0:nn=0<;>(refine Qh ?_;intros)
 case neg =>unfold zt;exact⟨_,.bool _ _,congrArg AV.bool lb⟩
 by_cases q1:v=0<;>(refine Qh ?_;intros)
 case neg =>unfold zt;exact⟨_,.bool _ _,congrArg AV.bool lb⟩
 by_cases w1:w=1
 case pos =>
  (refine Qh ?_;intros)
  unfold zt;exact⟨_,.bool _ _,congrArg AV.bool lb⟩
 (refine Qh ?_;intros)
 by_cases w2:w=2
 case pos =>
  (refine Qh ?_;intros)
  unfold zt;exact⟨_,.bool _ _,congrArg AV.bool lb⟩
 (refine Qh ?_;intros)
 by_cases w4:w=4
 case pos =>
  (refine Qh ?_;intros)
  unfold zt;exact⟨_,.bool _ _,congrArg AV.bool lb⟩
 (refine Qh ?_;intros)
 unfold zt;exact⟨_,.bool _ _,congrArg AV.bool lb⟩
theorem zoR {op nn v w i:Int} {l:List Ex} (h:op=19) :
  wpX Tryz.prog 0 zP (retK zj fun v' H' x=>∃a,Frz H' v' a∧a=.bool (zt op nn v w l.length)) [(1,encP 5 [.int .i64 op,.int .u32 nn,.int .i64 v,.int .i64 w,encL 5 encX l]),(3,.int .i64 i),(8,.bool false)] [] 0:=by
 unfold zP;have hB:=hBig
 (refine Qh ?_;intros)
 by_cases q0:nn=0<;>(refine Qh ?_;intros)
 case neg =>unfold zt;exact⟨_,.bool _ _,congrArg AV.bool lb⟩
 by_cases q1:v=0<;>(refine Qh ?_;intros)
 case neg =>unfold zt;exact⟨_,.bool _ _,congrArg AV.bool lb⟩
 by_cases w1:w=1
 case pos =>
  (refine Qh ?_;intros)
  unfold zt;exact⟨_,.bool _ _,congrArg AV.bool lb⟩
 (refine Qh ?_;intros)
 by_cases w2:w=2
 case pos =>
  (refine Qh ?_;intros)
  unfold zt;exact⟨_,.bool _ _,congrArg AV.bool lb⟩
 (refine Qh ?_;intros)
 unfold zt;exact⟨_,.bool _ _,congrArg AV.bool lb⟩
theorem zpD {op nn v w i:Int} {l:List Ex} (h1:op≠1) (h2:op≠2) (h16:op≠16) (h17:op≠17) (h18:op≠18) (h19:op≠19) :
  wpX Tryz.prog 0 zP (retK zj fun v' H' x=>∃a,Frz H' v' a∧a=.bool (zt op nn v w l.length)) [(1,encP 5 [.int .i64 op,.int .u32 nn,.int .i64 v,.int .i64 w,encL 5 encX l]),(3,.int .i64 i),(8,.bool false)] [] 0:=by
 unfold zP;have hB:=hBig
 (refine Qh ?_;intros)
 by_cases q0:3≤op<;>(refine Qh ?_;intros)
 case neg =>unfold zt;exact⟨_,.bool _ _,congrArg AV.bool lb⟩
 by_cases q1:op≤15<;>(refine Qh ?_;intros)
 case neg =>unfold zt;exact⟨_,.bool _ _,congrArg AV.bool lb⟩
 by_cases q2:nn=0<;>(refine Qh ?_;intros)
 case neg =>unfold zt;exact⟨_,.bool _ _,congrArg AV.bool lb⟩
 by_cases q3:v=0<;>(refine Qh ?_;intros)
 case neg =>unfold zt;exact⟨_,.bool _ _,congrArg AV.bool lb⟩
 by_cases q4:w=0<;>(refine Qh ?_;intros)
 case neg =>unfold zt;exact⟨_,.bool _ _,congrArg AV.bool lb⟩
 unfold zt;exact⟨_,.bool _ _,congrArg AV.bool lb⟩
theorem Ql {p q:Prop}(k:q)(h:Im q p:=by(repeat first|simp(disch:=try exact dis1) only[evD,Nat.reduceBEq,Nat.reduceAdd,Nat.reduceLeDiff,fldP] | ((with_reducible apply Im.i);intro _) | ((with_reducible apply Im.a);omega));exact Im.r):p:=h k
theorem zof:∀(k:Nat) (e:Ex),zg4 e≤k→zr Tryz.prog ze6 [.agg (encX e)] (·=.bool (zg5 e)):=by
 intro k
 induction k with
 | zero=>intro e h;obtain⟨_,_,_,_,l⟩:=e;rw[zg4] at h;omega
 | succ k ih =>
 intro e hk;obtain⟨op,nn,v,w,l⟩:=e;refine fn_x zoI rfl ?_;unfold zjm;have hB:=hBig;rw[zg4] at hk;rw[zhH,zg5];generalize hR:zdN l=R
 (refine Ql ?_;intros)
 refine zq (fun i:Nat=>([(1,encP 5 [.int .i64 op,.int .u32 nn,.int .i64 v,.int .i64 w,encL 5 encX l]),(3,.int .i64 i)],[])) 0 (fun i=>i≤l.length∧zdN (l.drop i)=R) (fun i=>l.length - i) 0 ⟨Wj _,hR⟩ (Ent.keep rfl fin5) ?_;rintro i ⟨hi,hgo⟩ wf;unfold zhc
 by_cases hl:i < l.length
 ·
  have hm:=zhW (Wq hl);rw[Wk hl,zdN] at hgo
  (repeat first|simp(disch:=try exact dis1) only[evD,Nat.reduceBEq,Nat.reduceAdd,Nat.reduceLeDiff,fldP,dT,zp hl,zb2,zbx]|with_reducible first|intro _|refine aJ ?_)
  refine zh (zm (ih l[i] (by omega)) (flX rfl)) ?_
  cases hd:zg5 l[i] with
  |
   false =>
   rw[hd,Bool.false_and] at hgo;subst hgo
   (repeat first|simp(disch:=try exact dis1) only[evD,Nat.reduceBEq,Nat.reduceAdd,Nat.reduceLeDiff,zj]|with_reducible first|intro _|refine aJ ?_)
   exact⟨_,.bool _ _,rfl⟩
  |
   true =>
   rw[hd,Bool.true_and] at hgo
   (refine Qa ?_;intros)
   exact⟨i+1,⟨by omega,hgo⟩,by omega,Ent.keep rfl fin5⟩
 ·
  rw[Wx (by omega),zdN] at hgo;subst hgo
  (repeat first|simp(disch:=try exact dis1) only[evD,Nat.reduceBEq,Nat.reduceAdd,Nat.reduceLeDiff,fldP,dF,Bool.true_and]|with_reducible first|intro _|refine aJ ?_)
  by_cases h1:op=1
  · exact zpp h1
  by_cases h2:op=2
  · exact zoa h2
  by_cases h16:op=16
  · exact zpr h16
  by_cases h17:op=17
  · exact zom h17
  by_cases h18:op=18
  · exact zon h18
  by_cases h19:op=19
  · exact zoR h19
  exact zpD h1 h2 h16 h17 h18 h19
theorem Qw {p q:Prop}(k:q)(h:Im q p:=by(repeat first|simp(disch:=try exact dis1) only[evD,Nat.reduceBEq,Nat.reduceAdd,Nat.reduceLeDiff,zb2,zb,zbx] | ((with_reducible apply Im.i);intro _) | ((with_reducible apply Im.a);omega));exact Im.r):p:=h k
theorem QC {p q:Prop}(k:q)(h:Im q p:=by(repeat first|simp(disch:=try exact dis1) only[evD,Nat.reduceBEq,Nat.reduceAdd,Nat.reduceLeDiff,zdy] | ((with_reducible apply Im.i);intro _) | ((with_reducible apply Im.a);omega));exact Im.r):p:=h k
theorem znO (e:Ex):zr Tryz.prog zgA [.agg (encX e)] (·=.int .i64 (ziQ e)):=by
 refine fn_x zny rfl ?_;unfold zi4 ziQ;have hB:=hBig
 (refine Qw ?_;intros)
 refine zh (zm (zrC (zg4 e) e 64 (Wl _) (by omega) (by omega)) (flX rfl)) ?_
 cases zow e 64 with
 |
  true =>
  (refine QC ?_;intros)
  exact⟨_,.int _ _ _,rfl⟩
 |
  false =>
  (refine Qw ?_;intros)
  refine zh (zm (zof (zg4 e) e (Wl _)) (flX rfl)) ?_
  cases zg5 e with
  |
   true =>
   (refine QC ?_;intros)
   exact⟨_,.int _ _ _,rfl⟩
  |
   false =>
   (refine QC ?_;intros)
   exact⟨_,.int _ _ _,rfl⟩
structure PredE (fv:AV) (l:List Ex) (p:Ex→Bool):Prop where
 ex:∃f caps,fv=.fn (.func f) caps∧zdd Tryz.prog f=true∧zA caps=true∧∀s∈l,zr Tryz.prog f ([.agg (encX s)]++caps) (·=.bool (p s))
theorem zcW:∀ {l:List AV},zA l=true→l.all AV.flat=true
 | [],_=>rfl
 |
  a::l,h=>by
  simp only[zA,Wr] at h;simp only[List.all_cons,Wr];refine⟨?_,zcW h.2⟩
  cases a<;>first|rfl|exact absurd h.1 (by simp[AV.flat0])
theorem ztK {fv:AV} {l:List Ex} {p:Ex→Bool} (hp:PredE fv l p) {s:Ex} (hs:s∈l) {H:AH} {nx:Nat} {k:AV→AH→Nat→Prop} (hk:k (.bool (p s)) H nx):zkO Tryz.prog fv [.agg (encX s)] H nx k:=by obtain⟨f,caps,rfl,hg,hf,hx⟩:=hp.ex;rw[zij];refine⟨hg,zh (zm (hx s hs) ?_) hk⟩;simp only[Wm,Wo,List.all_cons,Wr];exact⟨by have:=flX (r:=[]) rfl (e:=s);simpa using this,zcW hf⟩
theorem ze9 {fv:AV} {l:List Ex} {p:Ex→Bool} (hp:PredE fv l p) {H H2:AH} {σ:Nat→Nat→Option (Nat × Nat × Nat)} {D:Nat→Nat→Prop} {t:Bool}:Vw H H2 σ D t fv fv:=by
 obtain⟨f,caps,rfl,hg,hf,hx⟩:=hp.ex
 refine .fn _ _ _ _ rfl fun i a b h1 h2=>?_
 rw[h1] at h2;cases h2;exact zcJ (zbL hf h1)
def idxI (o:Option Nat):Int:=match o with|some i=>(i:Int)|none => -1
theorem QM {p q:Prop}(k:q)(h:Im q p:=by(repeat first|simp(disch:=try exact dis1) only[evD,Nat.reduceBEq,Nat.reduceAdd,Nat.reduceLeDiff,zaz] | ((with_reducible apply Im.i);intro _) | ((with_reducible apply Im.a);omega));exact Im.r):p:=h k
theorem zke (l:List Ex) (fv:AV) (p:Ex→Bool) (hp:PredE fv l p):zr Tryz.prog zaF [encL 5 encX l,fv] (·=.int .i64 (idxI (l.findIdx? p))):=by
 refine fn_x zdj rfl ?_;unfold zbz;have hB:=hBig
 (refine Qa ?_;intros)
 refine zq (fun i:Nat=>([(0,encL 5 encX l),(1,fv),(7,.int .i64 l.length),(8,.int .i64 i)],[])) 0 (fun i=>i≤l.length∧∀j (h:j < l.length),j < i→p l[j]=false) (fun i=>l.length - i) 0 ⟨Wj _,fun j _ h=>by omega⟩ (Ent.keep rfl fin5) ?_;intro i ⟨hi,hno⟩ wf;unfold za8
 (refine Qa ?_;intros)
 (refine zE (fun h=>?_) (fun h=>?_))<;>(try simp only[dcd] at h)
 ·
  have hi':i < l.length:=by omega
  (repeat first|simp(disch:=try exact dis1) only[evD,Nat.reduceBEq,Nat.reduceAdd,Nat.reduceLeDiff,zp hi',zb2,zbx]|with_reducible first|intro _|refine aJ ?_)
  refine ztK hp (Wq hi') ?_
  (refine Qa ?_;intros)
  (refine zE (fun h2=>?_) (fun h2=>?_))<;>(try simp only[dcd] at h2)
  ·
   (refine QM ?_;intros)
   have e:l.findIdx? p=some i:=by rw[Wy];exact⟨hi',h2,fun j hj=>by rw[hno j (by omega) hj];simp⟩
   rw[e];exact⟨_,.int _ _ _,rfl⟩
  ·
   (refine Qa ?_;intros)
   refine⟨i+1,⟨by omega,fun j hj hji=>?_⟩,by omega,Ent.keep rfl fin5⟩
   by_cases hje:j=i
   · subst hje;simpa using h2
   · exact hno j hj (by omega)
 ·
  unfold zbi
  (refine QM ?_;intros)
  have e:l.findIdx? p=none:=by rw[Wz];intro x hx;obtain⟨j,hj,rfl⟩:=List.mem_iff_getElem.1 hx;exact hno j hj (by omega)
  rw[e];exact⟨_,.int _ _ _,rfl⟩
theorem zzy {l:List Ex} {p:Ex→Bool}:decide (idxI (l.findIdx? p) ≥ 0)=l.any p:=by
 cases h:l.findIdx? p with
 |
  none =>
  have:=Wz.1 h;rw[decide_eq_false (by simp[idxI])];symm;rw[List.any_eq_false];intro x hx;rw[this x hx];simp
 |
  some i =>
  obtain⟨h1,h2,_⟩:=Wy.1 h;rw[decide_eq_true (by simp[idxI])];exact(zrN h1 h2).symm
theorem zZ (l:List Ex) (fv:AV) (p:Ex→Bool) (hp:PredE fv l p):zr Tryz.prog zac [encL 5 encX l,fv] (·=.bool (l.any p)):=by
 refine fn_x zcN rfl ?_;unfold zba
 (refine Qa ?_;intros)
 refine zh (zV (D:=noR) (zke l fv p hp) (.cons (zah rfl) (.cons (ze9 hp) .nil)) (.inl rfl)) ?_
 (repeat first|simp(disch:=try exact dis1) only[evD,Nat.reduceBEq,Nat.reduceAdd,Nat.reduceLeDiff,zbh]|with_reducible first|intro _|refine aJ ?_)
 refine⟨_,.bool _ _,?_⟩;rw[←zzy]
theorem QN {p q:Prop}(k:q)(h:Im q p:=by(repeat first|simp(disch:=try exact dis1) only[evD,Nat.reduceBEq,Nat.reduceAdd,Nat.reduceLeDiff,zb2,zb,zbx,encP] | ((with_reducible apply Im.i);intro _) | ((with_reducible apply Im.a);omega));exact Im.r):p:=h k
theorem QO {p q:Prop}(k:q)(h:Im q p:=by(repeat first|simp(disch:=try exact dis1) only[evD,Nat.reduceBEq,Nat.reduceAdd,Nat.reduceLeDiff,fldP,dT,encP] | ((with_reducible apply Im.i);intro _) | ((with_reducible apply Im.a);omega));exact Im.r):p:=h k
theorem zrK:∀(k:Nat) (e:Ex) (m:Int),zg4 e≤k → -1000≤m→m≤1000→zr Tryz.prog zhh [.agg (encX e),.int .i64 m] (·=.bool (!zow e m)):=by
 intro k
 induction k with
 | zero=>intro e m h;obtain⟨_,_,_,_,l⟩:=e;rw[zg4] at h;omega
 | succ k ih =>
 intro e m hk hm1 hm2;obtain⟨op,nn,v,w,l⟩:=e;refine fn_x zrg rfl ?_;unfold zmi;have hB:=hBig;rw[zg4] at hk;rw[zhH,zow]
 by_cases h1:m < 1
 ·
  rw[if_pos h1]
  (repeat first|simp(disch:=try exact dis1) only[evD,Nat.reduceBEq,Nat.reduceAdd,Nat.reduceLeDiff,fldP,dF,encP,ziD]|with_reducible first|intro _|refine aJ ?_)
  exact⟨_,.bool _ _,rfl⟩
 ·
  rw[if_neg h1,zqq]
  have hp:PredE (.fn (.func zhO) [encP 1 [.int .i64 m]]) l (zow · (m - 1)):=by
   refine⟨_,_,rfl,by kernel_rfl,rfl,fun s hs=>?_⟩;have hm:=zhW hs;refine fn_x zoU rfl ?_;unfold zjy
   (refine QN ?_;intros)
   refine zh (zm (ih s (m - 1) (by omega) (by omega) (by omega)) (flX rfl)) ?_
   (repeat first|simp(disch:=try exact dis1) only[evD,Nat.reduceBEq,Nat.reduceAdd,Nat.reduceLeDiff,zjD]|with_reducible first|intro _|refine aJ ?_)
   exact⟨_,.bool _ _,rfl⟩
  (refine QO ?_;intros)
  refine zh (zV (D:=noR) (zZ l _ _ hp) (.cons (zah rfl) (.cons (ze9 hp) .nil)) (.inl rfl)) ?_
  (repeat first|simp(disch:=try exact dis1) only[evD,Nat.reduceBEq,Nat.reduceAdd,Nat.reduceLeDiff,ziD]|with_reducible first|intro _|refine aJ ?_)
  exact⟨_,.bool _ _,rfl⟩
theorem Qg {p q:Prop}(k:q)(h:Im q p:=by(repeat first|simp(disch:=try exact dis1) only[evD,Nat.reduceBEq,Nat.reduceAdd,Nat.reduceLeDiff,dT,dF,fldP,zb,zn] | ((with_reducible apply Im.i);intro _) | ((with_reducible apply Im.a);omega));exact Im.r):p:=h k
theorem zsz {op nn v w:Int} {l:List Ex} (h:op=1) (hp:PredE (.fn (.func zaq) []) l (fun x => !zg5 x)):zr Tryz.prog zaK [.agg [.int .i64 op,.int .u32 nn,.int .i64 v,.int .i64 w,encL 5 encX l]] (·=.bool (zdN l&&zt op nn v w l.length)):=by
 refine fn_x zbr rfl ?_;unfold zaX;have hB:=hBig
 (refine Qg ?_;intros)
 by_cases q0:v=0<;>(refine Qg ?_;intros)
 case neg =>exact⟨_,.bool _ _,congrArg AV.bool (by rw[show zt op nn v w l.length=false from by unfold zt;exact dF (by omega),Wa])⟩
 by_cases q1:w=0<;>(refine Qg ?_;intros)
 case neg =>exact⟨_,.bool _ _,congrArg AV.bool (by rw[show zt op nn v w l.length=false from by unfold zt;exact dF (by omega),Wa])⟩
 by_cases q2:l.length=0<;>(refine Qg ?_;intros)
 case neg =>exact⟨_,.bool _ _,congrArg AV.bool (by rw[show zt op nn v w l.length=false from by unfold zt;exact dF (by omega),Wa])⟩
 refine zh (zV (D:=noR) (zZ l _ _ hp) (.cons (zah rfl) (.cons (ze9 hp) .nil)) (.inl rfl)) ?_
 (refine Qg ?_;intros)
 exact⟨_,.bool _ _,congrArg AV.bool (by rw[show zt op nn v w l.length=true from by unfold zt;exact dT (by omega),Wd,zc7,We])⟩
theorem zsn {op nn v w:Int} {l:List Ex} (h:op=2) (hp:PredE (.fn (.func zaq) []) l (fun x => !zg5 x)):zr Tryz.prog zaK [.agg [.int .i64 op,.int .u32 nn,.int .i64 v,.int .i64 w,encL 5 encX l]] (·=.bool (zdN l&&zt op nn v w l.length)):=by
 refine fn_x zbr rfl ?_;unfold zaX;have hB:=hBig
 (refine Qg ?_;intros)
 refine zh (zm (zhG v) rfl) ?_;unfold zrf
 by_cases hv:0≤v∧v < 65536<;>(refine Qg ?_;intros)
 case neg =>exact⟨_,.bool _ _,congrArg AV.bool (by rw[show zt op nn v w l.length=false from by unfold zt;exact dF (by omega),Wa])⟩
 by_cases q0:nn=0<;>(refine Qg ?_;intros)
 case neg =>exact⟨_,.bool _ _,congrArg AV.bool (by rw[show zt op nn v w l.length=false from by unfold zt;exact dF (by omega),Wa])⟩
 by_cases q1:w=0<;>(refine Qg ?_;intros)
 case neg =>exact⟨_,.bool _ _,congrArg AV.bool (by rw[show zt op nn v w l.length=false from by unfold zt;exact dF (by omega),Wa])⟩
 by_cases q2:l.length=0<;>(refine Qg ?_;intros)
 case neg =>exact⟨_,.bool _ _,congrArg AV.bool (by rw[show zt op nn v w l.length=false from by unfold zt;exact dF (by omega),Wa])⟩
 refine zh (zV (D:=noR) (zZ l _ _ hp) (.cons (zah rfl) (.cons (ze9 hp) .nil)) (.inl rfl)) ?_
 (refine Qg ?_;intros)
 exact⟨_,.bool _ _,congrArg AV.bool (by rw[show zt op nn v w l.length=true from by unfold zt;exact dT (by omega),Wd,zc7,We])⟩
theorem zsK {op nn v w:Int} {l:List Ex} (h:3≤op) (h2:op≤15) (hp:PredE (.fn (.func zaq) []) l (fun x => !zg5 x)):zr Tryz.prog zaK [.agg [.int .i64 op,.int .u32 nn,.int .i64 v,.int .i64 w,encL 5 encX l]] (·=.bool (zdN l&&zt op nn v w l.length)):=by
 refine fn_x zbr rfl ?_;unfold zaX;have hB:=hBig
 (refine Qg ?_;intros)
 by_cases q0:nn=0<;>(refine Qg ?_;intros)
 case neg =>exact⟨_,.bool _ _,congrArg AV.bool (by rw[show zt op nn v w l.length=false from by unfold zt;exact dF (by omega),Wa])⟩
 by_cases q1:v=0<;>(refine Qg ?_;intros)
 case neg =>exact⟨_,.bool _ _,congrArg AV.bool (by rw[show zt op nn v w l.length=false from by unfold zt;exact dF (by omega),Wa])⟩
 by_cases q2:w=0<;>(refine Qg ?_;intros)
 case neg =>exact⟨_,.bool _ _,congrArg AV.bool (by rw[show zt op nn v w l.length=false from by unfold zt;exact dF (by omega),Wa])⟩
 by_cases q3:l.length=2<;>(refine Qg ?_;intros)
 case neg =>exact⟨_,.bool _ _,congrArg AV.bool (by rw[show zt op nn v w l.length=false from by unfold zt;exact dF (by omega),Wa])⟩
 refine zh (zV (D:=noR) (zZ l _ _ hp) (.cons (zah rfl) (.cons (ze9 hp) .nil)) (.inl rfl)) ?_
 (refine Qg ?_;intros)
 exact⟨_,.bool _ _,congrArg AV.bool (by rw[show zt op nn v w l.length=true from by unfold zt;exact dT (by omega),Wd,zc7,We])⟩
theorem zrh {op nn v w:Int} {l:List Ex} (h:op=16) (hp:PredE (.fn (.func zaq) []) l (fun x => !zg5 x)):zr Tryz.prog zaK [.agg [.int .i64 op,.int .u32 nn,.int .i64 v,.int .i64 w,encL 5 encX l]] (·=.bool (zdN l&&zt op nn v w l.length)):=by
 refine fn_x zbr rfl ?_;unfold zaX;have hB:=hBig
 (refine Qg ?_;intros)
 by_cases q0:nn=0<;>(refine Qg ?_;intros)
 case neg =>exact⟨_,.bool _ _,congrArg AV.bool (by rw[show zt op nn v w l.length=false from by unfold zt;exact dF (by omega),Wa])⟩
 by_cases q1:v=0<;>(refine Qg ?_;intros)
 case neg =>exact⟨_,.bool _ _,congrArg AV.bool (by rw[show zt op nn v w l.length=false from by unfold zt;exact dF (by omega),Wa])⟩
 by_cases q2:w=0<;>(refine Qg ?_;intros)
 case neg =>exact⟨_,.bool _ _,congrArg AV.bool (by rw[show zt op nn v w l.length=false from by unfold zt;exact dF (by omega),Wa])⟩
 by_cases q3:l.length=1<;>(refine Qg ?_;intros)
 case neg =>exact⟨_,.bool _ _,congrArg AV.bool (by rw[show zt op nn v w l.length=false from by unfold zt;exact dF (by omega),Wa])⟩
 refine zh (zV (D:=noR) (zZ l _ _ hp) (.cons (zah rfl) (.cons (ze9 hp) .nil)) (.inl rfl)) ?_
 (refine Qg ?_;intros)
 exact⟨_,.bool _ _,congrArg AV.bool (by rw[show zt op nn v w l.length=true from by unfold zt;exact dT (by omega),Wd,zc7,We])⟩
theorem zrw {op nn v w:Int} {l:List Ex} (h:op=17) (hp:PredE (.fn (.func zaq) []) l (fun x => !zg5 x)):zr Tryz.prog zaK [.agg [.int .i64 op,.int .u32 nn,.int .i64 v,.int .i64 w,encL 5 encX l]] (·=.bool (zdN l&&zt op nn v w l.length)):=by
 refine fn_x zbr rfl ?_;unfold zaX;have hB:=hBig
 (refine Qg ?_;intros)
 by_cases q0:nn=0<;>(refine Qg ?_;intros)
 case neg =>exact⟨_,.bool _ _,congrArg AV.bool (by rw[show zt op nn v w l.length=false from by unfold zt;exact dF (by omega),Wa])⟩
 by_cases q1:v=0<;>(refine Qg ?_;intros)
 case neg =>exact⟨_,.bool _ _,congrArg AV.bool (by rw[show zt op nn v w l.length=false from by unfold zt;exact dF (by omega),Wa])⟩
 by_cases q2:w=0<;>(refine Qg ?_;intros)
 case neg =>exact⟨_,.bool _ _,congrArg AV.bool (by rw[show zt op nn v w l.length=false from by unfold zt;exact dF (by omega),Wa])⟩
 by_cases q3:l.length=1<;>(refine Qg ?_;intros)
 case neg =>exact⟨_,.bool _ _,congrArg AV.bool (by rw[show zt op nn v w l.length=false from by unfold zt;exact dF (by omega),Wa])⟩
 refine zh (zV (D:=noR) (zZ l _ _ hp) (.cons (zah rfl) (.cons (ze9 hp) .nil)) (.inl rfl)) ?_
 (refine Qg ?_;intros)
 exact⟨_,.bool _ _,congrArg AV.bool (by rw[show zt op nn v w l.length=true from by unfold zt;exact dT (by omega),Wd,zc7,We])⟩
theorem zro {op nn v w:Int} {l:List Ex} (h:op=18) (hp:PredE (.fn (.func zaq) []) l (fun x => !zg5 x)):zr Tryz.prog zaK [.agg [.int .i64 op,.int .u32 nn,.int .i64 v,.int .i64 w,encL 5 encX l]] (·=.bool (zdN l&&zt op nn v w l.length)):=by
 refine fn_x zbr rfl ?_;unfold zaX;have hB:=hBig
 (refine Qg ?_;intros)
 refine zh (zm (zm5 w) rfl) ?_;unfold zq8
 by_cases hv:w=1∨w=2∨w=4<;>(refine Qg ?_;intros)
 case neg =>exact⟨_,.bool _ _,congrArg AV.bool (by rw[show zt op nn v w l.length=false from by unfold zt;exact dF (by omega),Wa])⟩
 by_cases q0:nn=0<;>(refine Qg ?_;intros)
 case neg =>exact⟨_,.bool _ _,congrArg AV.bool (by rw[show zt op nn v w l.length=false from by unfold zt;exact dF (by omega),Wa])⟩
 by_cases q1:v=0<;>(refine Qg ?_;intros)
 case neg =>exact⟨_,.bool _ _,congrArg AV.bool (by rw[show zt op nn v w l.length=false from by unfold zt;exact dF (by omega),Wa])⟩
 by_cases q2:l.length=1<;>(refine Qg ?_;intros)
 case neg =>exact⟨_,.bool _ _,congrArg AV.bool (by rw[show zt op nn v w l.length=false from by unfold zt;exact dF (by omega),Wa])⟩
 refine zh (zV (D:=noR) (zZ l _ _ hp) (.cons (zah rfl) (.cons (ze9 hp) .nil)) (.inl rfl)) ?_
 (refine Qg ?_;intros)
 exact⟨_,.bool _ _,congrArg AV.bool (by rw[show zt op nn v w l.length=true from by unfold zt;exact dT (by omega),Wd,zc7,We])⟩
theorem zpM {op nn v w:Int} {l:List Ex} (h:op=19) (hw:w=1) (hp:PredE (.fn (.func zaq) []) l (fun x => !zg5 x)):zr Tryz.prog zaK [.agg [.int .i64 op,.int .u32 nn,.int .i64 v,.int .i64 w,encL 5 encX l]] (·=.bool (zdN l&&zt op nn v w l.length)):=by
 refine fn_x zbr rfl ?_;unfold zaX;have hB:=hBig
 (refine Qg ?_;intros)
 by_cases q0:nn=0<;>(refine Qg ?_;intros)
 case neg =>exact⟨_,.bool _ _,congrArg AV.bool (by rw[show zt op nn v w l.length=false from by unfold zt;exact dF (by omega),Wa])⟩
 by_cases q1:v=0<;>(refine Qg ?_;intros)
 case neg =>exact⟨_,.bool _ _,congrArg AV.bool (by rw[show zt op nn v w l.length=false from by unfold zt;exact dF (by omega),Wa])⟩
 by_cases q2:l.length=1<;>(refine Qg ?_;intros)
 case neg =>exact⟨_,.bool _ _,congrArg AV.bool (by rw[show zt op nn v w l.length=false from by unfold zt;exact dF (by omega),Wa])⟩
 refine zh (zV (D:=noR) (zZ l _ _ hp) (.cons (zah rfl) (.cons (ze9 hp) .nil)) (.inl rfl)) ?_
 (refine Qg ?_;intros)
 exact⟨_,.bool _ _,congrArg AV.bool (by rw[show zt op nn v w l.length=true from by unfold zt;exact dT (by omega),Wd,zc7,We])⟩
theorem zpK {op nn v w:Int} {l:List Ex} (h:op=19) (hw:w=2) (hp:PredE (.fn (.func zaq) []) l (fun x => !zg5 x)):zr Tryz.prog zaK [.agg [.int .i64 op,.int .u32 nn,.int .i64 v,.int .i64 w,encL 5 encX l]] (·=.bool (zdN l&&zt op nn v w l.length)):=by
 refine fn_x zbr rfl ?_;unfold zaX;have hB:=hBig
 (refine Qg ?_;intros)
 by_cases q0:nn=0<;>(refine Qg ?_;intros)
 case neg =>exact⟨_,.bool _ _,congrArg AV.bool (by rw[show zt op nn v w l.length=false from by unfold zt;exact dF (by omega),Wa])⟩
 by_cases q1:v=0<;>(refine Qg ?_;intros)
 case neg =>exact⟨_,.bool _ _,congrArg AV.bool (by rw[show zt op nn v w l.length=false from by unfold zt;exact dF (by omega),Wa])⟩
 by_cases q2:l.length=1<;>(refine Qg ?_;intros)
 case neg =>exact⟨_,.bool _ _,congrArg AV.bool (by rw[show zt op nn v w l.length=false from by unfold zt;exact dF (by omega),Wa])⟩
 refine zh (zV (D:=noR) (zZ l _ _ hp) (.cons (zah rfl) (.cons (ze9 hp) .nil)) (.inl rfl)) ?_
 (refine Qg ?_;intros)
 exact⟨_,.bool _ _,congrArg AV.bool (by rw[show zt op nn v w l.length=true from by unfold zt;exact dT (by omega),Wd,zc7,We])⟩
theorem zpG {op nn v w:Int} {l:List Ex} (h:op=19) (h1:w≠1) (h2:w≠2) (hp:PredE (.fn (.func zaq) []) l (fun x => !zg5 x)):zr Tryz.prog zaK [.agg [.int .i64 op,.int .u32 nn,.int .i64 v,.int .i64 w,encL 5 encX l]] (·=.bool (zdN l&&zt op nn v w l.length)):=by
 refine fn_x zbr rfl ?_;unfold zaX;have hB:=hBig
 (refine Qg ?_;intros)
 exact⟨_,.bool _ _,congrArg AV.bool (by rw[show zt op nn v w l.length=false from by unfold zt;exact dF (by omega),Wa])⟩
theorem zuN {op nn v w:Int} {l:List Ex} (h0:op < 1) (hp:PredE (.fn (.func zaq) []) l (fun x => !zg5 x)):zr Tryz.prog zaK [.agg [.int .i64 op,.int .u32 nn,.int .i64 v,.int .i64 w,encL 5 encX l]] (·=.bool (zdN l&&zt op nn v w l.length)):=by
 refine fn_x zbr rfl ?_;unfold zaX;have hB:=hBig
 (refine Qg ?_;intros)
 exact⟨_,.bool _ _,congrArg AV.bool (by rw[show zt op nn v w l.length=false from by unfold zt;exact dF (by omega),Wa])⟩
theorem zt6 {op nn v w:Int} {l:List Ex} (h0:19 < op) (hp:PredE (.fn (.func zaq) []) l (fun x => !zg5 x)):zr Tryz.prog zaK [.agg [.int .i64 op,.int .u32 nn,.int .i64 v,.int .i64 w,encL 5 encX l]] (·=.bool (zdN l&&zt op nn v w l.length)):=by
 refine fn_x zbr rfl ?_;unfold zaX;have hB:=hBig
 (refine Qg ?_;intros)
 exact⟨_,.bool _ _,congrArg AV.bool (by rw[show zt op nn v w l.length=false from by unfold zt;exact dF (by omega),Wa])⟩
theorem zs6:∀(k:Nat) (e:Ex),zg4 e≤k→zr Tryz.prog zaK [.agg (encX e)] (·=.bool (zg5 e)):=by
 intro k
 induction k with
 | zero=>intro e h;obtain⟨_,_,_,_,l⟩:=e;rw[zg4] at h;omega
 | succ k ih =>
 intro e hk;obtain⟨op,nn,v,w,l⟩:=e;rw[zg4] at hk;rw[zhH,zg5]
 have hp:PredE (.fn (.func zaq) []) l (fun x => !zg5 x):=by
  refine⟨_,_,rfl,by kernel_rfl,rfl,fun s hs=>?_⟩;have hm:=zhW hs;refine fn_x zpH rfl ?_;unfold zkM;have hB:=hBig
  (refine QN ?_;intros)
  refine zh (zm (ih s (by omega)) (flX rfl)) ?_
  (repeat first|simp(disch:=try exact dis1) only[evD,Nat.reduceBEq,Nat.reduceAdd,Nat.reduceLeDiff,zkG]|with_reducible first|intro _|refine aJ ?_)
  exact⟨_,.bool _ _,rfl⟩
 by_cases h1:op=1
 · exact zsz h1 hp
 by_cases h2:op=2
 · exact zsn h2 hp
 by_cases h3:3≤op∧op≤15
 · exact zsK h3.1 h3.2 hp
 by_cases h16:op=16
 · exact zrh h16 hp
 by_cases h17:op=17
 · exact zrw h17 hp
 by_cases h18:op=18
 · exact zro h18 hp
 by_cases h19:op=19
 ·
  by_cases w1:w=1
  · exact zpM h19 w1 hp
  by_cases w2:w=2
  · exact zpK h19 w2 hp
  exact zpG h19 w1 w2 hp
 by_cases h0:op < 1
 · exact zuN h0 hp
 exact zt6 (by omega) hp
theorem QD {p q:Prop}(k:q)(h:Im q p:=by(repeat first|simp(disch:=try exact dis1) only[evD,Nat.reduceBEq,Nat.reduceAdd,Nat.reduceLeDiff,zei] | ((with_reducible apply Im.i);intro _) | ((with_reducible apply Im.a);omega));exact Im.r):p:=h k
theorem zdP (e:Ex):zr Tryz.prog ze7 [.agg (encX e)] (·=.int .i64 (ziQ e)):=by
 refine fn_x zpk rfl ?_;unfold zjS ziQ;have hB:=hBig
 (refine Qw ?_;intros)
 refine zh (zm (zrK (zg4 e) e 64 (Wl _) (by omega) (by omega)) (flX rfl)) ?_
 cases zow e 64 with
 |
  true =>
  (refine QD ?_;intros)
  exact⟨_,.int _ _ _,rfl⟩
 |
  false =>
  (refine Qw ?_;intros)
  refine zh (zm (zs6 (zg4 e) e (Wl _)) (flX rfl)) ?_
  cases zg5 e with
  |
   true =>
   (refine QD ?_;intros)
   exact⟨_,.int _ _ _,rfl⟩
  |
   false =>
   (refine QD ?_;intros)
   exact⟨_,.int _ _ _,rfl⟩
def zaf (op:Int):Int:=if op=2 then 2 else if op=1∨op=4∨op=7∨op=8 then 1 else if op=3∨op=5∨op=6∨op=9∨op=10 then 0 else -1
def zJ (op var width next els tgt:Int) (k:Nat):Bool:=decide (((op=1∨op=3)∨var=0)∧(op=2∨width=0)∧((op=6∨op=7)∨next=0)∧(op=7∨els=0)∧(op=5∨tgt=0)∧(op=8∨k=0))
def zy (op var width next els tgt:Int) (k:Nat):Bool:=decide ((((op=1∨op=3)∨var=0)∧(op=2∨width=0)∧((op=6∨op=7)∨next=0)∧(op=7∨els=0)∧(op=5∨tgt=0)∧(op=8∨k=0))∧(0≤var∧var < 65536)∧(op=2→width=1∨width=2∨width=4)∧(op=8→1≤k∧k≤64))
theorem Qn {p q:Prop}(k:q)(h:Im q p:=by(repeat first|simp(disch:=try exact dis1) only[evD,Nat.reduceBEq,Nat.reduceAdd,Nat.reduceLeDiff,dT,dF,zab] | ((with_reducible apply Im.i);intro _) | ((with_reducible apply Im.a);omega));exact Im.r):p:=h k
theorem zmR (op:Int):zr Tryz.prog zfw [.int .i64 op] (·=.int .i64 (zaf op)):=by
 refine fn_x zmU rfl ?_;unfold zhX
 by_cases h1:op=1
 ·
  have hr:zaf op=1:=by unfold zaf;subst h1;rfl
  rw[hr]
  (refine Qn ?_;intros)
  exact⟨_,.int _ _ _,rfl⟩
 by_cases h4:op=4
 ·
  have hr:zaf op=1:=by unfold zaf;subst h4;rfl
  rw[hr]
  (refine Qn ?_;intros)
  exact⟨_,.int _ _ _,rfl⟩
 by_cases h7:op=7
 ·
  have hr:zaf op=1:=by unfold zaf;subst h7;rfl
  rw[hr]
  (refine Qn ?_;intros)
  exact⟨_,.int _ _ _,rfl⟩
 by_cases h8:op=8
 ·
  have hr:zaf op=1:=by unfold zaf;subst h8;rfl
  rw[hr]
  (refine Qn ?_;intros)
  exact⟨_,.int _ _ _,rfl⟩
 by_cases h2:op=2
 ·
  have hr:zaf op=2:=by unfold zaf;subst h2;rfl
  rw[hr]
  (refine Qn ?_;intros)
  exact⟨_,.int _ _ _,rfl⟩
 by_cases h3:op=3
 ·
  have hr:zaf op=0:=by unfold zaf;subst h3;rfl
  rw[hr]
  (refine Qn ?_;intros)
  exact⟨_,.int _ _ _,rfl⟩
 by_cases h5:op=5
 ·
  have hr:zaf op=0:=by unfold zaf;subst h5;rfl
  rw[hr]
  (refine Qn ?_;intros)
  exact⟨_,.int _ _ _,rfl⟩
 by_cases h6:op=6
 ·
  have hr:zaf op=0:=by unfold zaf;subst h6;rfl
  rw[hr]
  (refine Qn ?_;intros)
  exact⟨_,.int _ _ _,rfl⟩
 by_cases h9:op=9
 ·
  have hr:zaf op=0:=by unfold zaf;subst h9;rfl
  rw[hr]
  (refine Qn ?_;intros)
  exact⟨_,.int _ _ _,rfl⟩
 by_cases h10:op=10
 ·
  have hr:zaf op=0:=by unfold zaf;subst h10;rfl
  rw[hr]
  (refine Qn ?_;intros)
  exact⟨_,.int _ _ _,rfl⟩
 have hr:zaf op = -1:=by unfold zaf;rw[if_neg (by omega),if_neg (by omega),if_neg (by omega)]
 rw[hr]
 (refine Qn ?_;intros)
 exact⟨_,.int _ _ _,rfl⟩
theorem Qt {p q:Prop}(k:q)(h:Im q p:=by(repeat first|simp(disch:=try exact dis1) only[evD,Nat.reduceBEq,Nat.reduceAdd,Nat.reduceLeDiff,dT,dF,zcY] | ((with_reducible apply Im.i);intro _) | ((with_reducible apply Im.a);omega));exact Im.r):p:=h k
theorem zr0 (op:Int) (h1:1≤op) (h2:op≤10):zr Tryz.prog zlt [.int .i64 op] (·=.int .i64 (zaf op)):=by
 refine fn_x zss rfl ?_;unfold zno
 by_cases h2:op=2
 ·
  have hr:zaf op=2:=by unfold zaf;subst h2;rfl
  rw[hr]
  (refine Qt ?_;intros)
  exact⟨_,.int _ _ _,rfl⟩
 by_cases h1:op=1
 ·
  have hr:zaf op=1:=by unfold zaf;subst h1;rfl
  rw[hr]
  (refine Qt ?_;intros)
  exact⟨_,.int _ _ _,rfl⟩
 by_cases h4:op=4
 ·
  have hr:zaf op=1:=by unfold zaf;subst h4;rfl
  rw[hr]
  (refine Qt ?_;intros)
  exact⟨_,.int _ _ _,rfl⟩
 by_cases h7:op=7
 ·
  have hr:zaf op=1:=by unfold zaf;subst h7;rfl
  rw[hr]
  (refine Qt ?_;intros)
  exact⟨_,.int _ _ _,rfl⟩
 by_cases h8:op=8
 ·
  have hr:zaf op=1:=by unfold zaf;subst h8;rfl
  rw[hr]
  (refine Qt ?_;intros)
  exact⟨_,.int _ _ _,rfl⟩
 have hr:zaf op=0:=by unfold zaf;rw[if_neg (by omega),if_neg (by omega),if_pos (by omega)]
 rw[hr]
 (refine Qt ?_;intros)
 exact⟨_,.int _ _ _,rfl⟩
theorem Qd {p q:Prop}(k:q)(h:Im q p:=by(repeat first|simp(disch:=try exact dis1) only[evD,Nat.reduceBEq,Nat.reduceAdd,Nat.reduceLeDiff,dT,dF,fldP,za,zk] | ((with_reducible apply Im.i);intro _) | ((with_reducible apply Im.a);omega));exact Im.r):p:=h k
theorem zr5 (op var width next els tgt:Int) (e:List Ex) (cs:List Int) (h:op=1):zr Tryz.prog zaP [.agg [.int .i64 op,.int .i64 var,.int .i64 width,.int .i64 next,.int .i64 els,.int .u32 tgt,encL 5 encX e,za cs]] (·=.bool (zJ op var width next els tgt cs.length)):=by
 refine fn_x zbm rfl ?_;unfold zaU;have hB:=hBig
 (refine Qd ?_;intros)
 by_cases q0:width=0<;>(refine Qd ?_;intros)
 case neg =>exact⟨_,.bool _ _,congrArg AV.bool (by unfold zJ;exact lb)⟩
 by_cases q1:next=0<;>(refine Qd ?_;intros)
 case neg =>exact⟨_,.bool _ _,congrArg AV.bool (by unfold zJ;exact lb)⟩
 by_cases q2:els=0<;>(refine Qd ?_;intros)
 case neg =>exact⟨_,.bool _ _,congrArg AV.bool (by unfold zJ;exact lb)⟩
 by_cases q3:tgt=0<;>(refine Qd ?_;intros)
 case neg =>exact⟨_,.bool _ _,congrArg AV.bool (by unfold zJ;exact lb)⟩
 exact⟨_,.bool _ _,congrArg AV.bool (by unfold zJ;exact lb)⟩
theorem zsC (op var width next els tgt:Int) (e:List Ex) (cs:List Int) (h:op=2):zr Tryz.prog zaP [.agg [.int .i64 op,.int .i64 var,.int .i64 width,.int .i64 next,.int .i64 els,.int .u32 tgt,encL 5 encX e,za cs]] (·=.bool (zJ op var width next els tgt cs.length)):=by
 refine fn_x zbm rfl ?_;unfold zaU;have hB:=hBig
 (refine Qd ?_;intros)
 by_cases q0:var=0<;>(refine Qd ?_;intros)
 case neg =>exact⟨_,.bool _ _,congrArg AV.bool (by unfold zJ;exact lb)⟩
 by_cases q1:next=0<;>(refine Qd ?_;intros)
 case neg =>exact⟨_,.bool _ _,congrArg AV.bool (by unfold zJ;exact lb)⟩
 by_cases q2:els=0<;>(refine Qd ?_;intros)
 case neg =>exact⟨_,.bool _ _,congrArg AV.bool (by unfold zJ;exact lb)⟩
 by_cases q3:tgt=0<;>(refine Qd ?_;intros)
 case neg =>exact⟨_,.bool _ _,congrArg AV.bool (by unfold zJ;exact lb)⟩
 exact⟨_,.bool _ _,congrArg AV.bool (by unfold zJ;exact lb)⟩
theorem zr8 (op var width next els tgt:Int) (e:List Ex) (cs:List Int) (h:op=3):zr Tryz.prog zaP [.agg [.int .i64 op,.int .i64 var,.int .i64 width,.int .i64 next,.int .i64 els,.int .u32 tgt,encL 5 encX e,za cs]] (·=.bool (zJ op var width next els tgt cs.length)):=by
 refine fn_x zbm rfl ?_;unfold zaU;have hB:=hBig
 (refine Qd ?_;intros)
 by_cases q0:width=0<;>(refine Qd ?_;intros)
 case neg =>exact⟨_,.bool _ _,congrArg AV.bool (by unfold zJ;exact lb)⟩
 by_cases q1:next=0<;>(refine Qd ?_;intros)
 case neg =>exact⟨_,.bool _ _,congrArg AV.bool (by unfold zJ;exact lb)⟩
 by_cases q2:els=0<;>(refine Qd ?_;intros)
 case neg =>exact⟨_,.bool _ _,congrArg AV.bool (by unfold zJ;exact lb)⟩
 by_cases q3:tgt=0<;>(refine Qd ?_;intros)
 case neg =>exact⟨_,.bool _ _,congrArg AV.bool (by unfold zJ;exact lb)⟩
 exact⟨_,.bool _ _,congrArg AV.bool (by unfold zJ;exact lb)⟩
theorem zsy (op var width next els tgt:Int) (e:List Ex) (cs:List Int) (h:op=4):zr Tryz.prog zaP [.agg [.int .i64 op,.int .i64 var,.int .i64 width,.int .i64 next,.int .i64 els,.int .u32 tgt,encL 5 encX e,za cs]] (·=.bool (zJ op var width next els tgt cs.length)):=by
 refine fn_x zbm rfl ?_;unfold zaU;have hB:=hBig
 (refine Qd ?_;intros)
 by_cases q0:var=0<;>(refine Qd ?_;intros)
 case neg =>exact⟨_,.bool _ _,congrArg AV.bool (by unfold zJ;exact lb)⟩
 by_cases q1:width=0<;>(refine Qd ?_;intros)
 case neg =>exact⟨_,.bool _ _,congrArg AV.bool (by unfold zJ;exact lb)⟩
 by_cases q2:next=0<;>(refine Qd ?_;intros)
 case neg =>exact⟨_,.bool _ _,congrArg AV.bool (by unfold zJ;exact lb)⟩
 by_cases q3:els=0<;>(refine Qd ?_;intros)
 case neg =>exact⟨_,.bool _ _,congrArg AV.bool (by unfold zJ;exact lb)⟩
 by_cases q4:tgt=0<;>(refine Qd ?_;intros)
 case neg =>exact⟨_,.bool _ _,congrArg AV.bool (by unfold zJ;exact lb)⟩
 exact⟨_,.bool _ _,congrArg AV.bool (by unfold zJ;exact lb)⟩
theorem zr1 (op var width next els tgt:Int) (e:List Ex) (cs:List Int) (h:op=5):zr Tryz.prog zaP [.agg [.int .i64 op,.int .i64 var,.int .i64 width,.int .i64 next,.int .i64 els,.int .u32 tgt,encL 5 encX e,za cs]] (·=.bool (zJ op var width next els tgt cs.length)):=by
 refine fn_x zbm rfl ?_;unfold zaU;have hB:=hBig
 (refine Qd ?_;intros)
 by_cases q0:var=0<;>(refine Qd ?_;intros)
 case neg =>exact⟨_,.bool _ _,congrArg AV.bool (by unfold zJ;exact lb)⟩
 by_cases q1:width=0<;>(refine Qd ?_;intros)
 case neg =>exact⟨_,.bool _ _,congrArg AV.bool (by unfold zJ;exact lb)⟩
 by_cases q2:next=0<;>(refine Qd ?_;intros)
 case neg =>exact⟨_,.bool _ _,congrArg AV.bool (by unfold zJ;exact lb)⟩
 by_cases q3:els=0<;>(refine Qd ?_;intros)
 case neg =>exact⟨_,.bool _ _,congrArg AV.bool (by unfold zJ;exact lb)⟩
 exact⟨_,.bool _ _,congrArg AV.bool (by unfold zJ;exact lb)⟩
theorem ztv (op var width next els tgt:Int) (e:List Ex) (cs:List Int) (h:op=6):zr Tryz.prog zaP [.agg [.int .i64 op,.int .i64 var,.int .i64 width,.int .i64 next,.int .i64 els,.int .u32 tgt,encL 5 encX e,za cs]] (·=.bool (zJ op var width next els tgt cs.length)):=by
 refine fn_x zbm rfl ?_;unfold zaU;have hB:=hBig
 (refine Qd ?_;intros)
 by_cases q0:var=0<;>(refine Qd ?_;intros)
 case neg =>exact⟨_,.bool _ _,congrArg AV.bool (by unfold zJ;exact lb)⟩
 by_cases q1:width=0<;>(refine Qd ?_;intros)
 case neg =>exact⟨_,.bool _ _,congrArg AV.bool (by unfold zJ;exact lb)⟩
 by_cases q2:els=0<;>(refine Qd ?_;intros)
 case neg =>exact⟨_,.bool _ _,congrArg AV.bool (by unfold zJ;exact lb)⟩
 by_cases q3:tgt=0<;>(refine Qd ?_;intros)
 case neg =>exact⟨_,.bool _ _,congrArg AV.bool (by unfold zJ;exact lb)⟩
 exact⟨_,.bool _ _,congrArg AV.bool (by unfold zJ;exact lb)⟩
theorem ztt (op var width next els tgt:Int) (e:List Ex) (cs:List Int) (h:op=7):zr Tryz.prog zaP [.agg [.int .i64 op,.int .i64 var,.int .i64 width,.int .i64 next,.int .i64 els,.int .u32 tgt,encL 5 encX e,za cs]] (·=.bool (zJ op var width next els tgt cs.length)):=by
 refine fn_x zbm rfl ?_;unfold zaU;have hB:=hBig
 (refine Qd ?_;intros)
 by_cases q0:var=0<;>(refine Qd ?_;intros)
 case neg =>exact⟨_,.bool _ _,congrArg AV.bool (by unfold zJ;exact lb)⟩
 by_cases q1:width=0<;>(refine Qd ?_;intros)
 case neg =>exact⟨_,.bool _ _,congrArg AV.bool (by unfold zJ;exact lb)⟩
 by_cases q2:tgt=0<;>(refine Qd ?_;intros)
 case neg =>exact⟨_,.bool _ _,congrArg AV.bool (by unfold zJ;exact lb)⟩
 exact⟨_,.bool _ _,congrArg AV.bool (by unfold zJ;exact lb)⟩
theorem ztb (op var width next els tgt:Int) (e:List Ex) (cs:List Int) (h:op=8):zr Tryz.prog zaP [.agg [.int .i64 op,.int .i64 var,.int .i64 width,.int .i64 next,.int .i64 els,.int .u32 tgt,encL 5 encX e,za cs]] (·=.bool (zJ op var width next els tgt cs.length)):=by
 refine fn_x zbm rfl ?_;unfold zaU;have hB:=hBig
 (refine Qd ?_;intros)
 by_cases q0:var=0<;>(refine Qd ?_;intros)
 case neg =>exact⟨_,.bool _ _,congrArg AV.bool (by unfold zJ;exact lb)⟩
 by_cases q1:width=0<;>(refine Qd ?_;intros)
 case neg =>exact⟨_,.bool _ _,congrArg AV.bool (by unfold zJ;exact lb)⟩
 by_cases q2:next=0<;>(refine Qd ?_;intros)
 case neg =>exact⟨_,.bool _ _,congrArg AV.bool (by unfold zJ;exact lb)⟩
 by_cases q3:els=0<;>(refine Qd ?_;intros)
 case neg =>exact⟨_,.bool _ _,congrArg AV.bool (by unfold zJ;exact lb)⟩
 by_cases q4:tgt=0<;>(refine Qd ?_;intros)
 case neg =>exact⟨_,.bool _ _,congrArg AV.bool (by unfold zJ;exact lb)⟩
 exact⟨_,.bool _ _,congrArg AV.bool (by unfold zJ;exact lb)⟩
theorem zso (op var width next els tgt:Int) (e:List Ex) (cs:List Int) (h:op=9):zr Tryz.prog zaP [.agg [.int .i64 op,.int .i64 var,.int .i64 width,.int .i64 next,.int .i64 els,.int .u32 tgt,encL 5 encX e,za cs]] (·=.bool (zJ op var width next els tgt cs.length)):=by
 refine fn_x zbm rfl ?_;unfold zaU;have hB:=hBig
 (refine Qd ?_;intros)
 by_cases q0:var=0<;>(refine Qd ?_;intros)
 case neg =>exact⟨_,.bool _ _,congrArg AV.bool (by unfold zJ;exact lb)⟩
 by_cases q1:width=0<;>(refine Qd ?_;intros)
 case neg =>exact⟨_,.bool _ _,congrArg AV.bool (by unfold zJ;exact lb)⟩
 by_cases q2:next=0<;>(refine Qd ?_;intros)
 case neg =>exact⟨_,.bool _ _,congrArg AV.bool (by unfold zJ;exact lb)⟩
 by_cases q3:els=0<;>(refine Qd ?_;intros)
 case neg =>exact⟨_,.bool _ _,congrArg AV.bool (by unfold zJ;exact lb)⟩
 by_cases q4:tgt=0<;>(refine Qd ?_;intros)
 case neg =>exact⟨_,.bool _ _,congrArg AV.bool (by unfold zJ;exact lb)⟩
 exact⟨_,.bool _ _,congrArg AV.bool (by unfold zJ;exact lb)⟩
theorem zqS (op var width next els tgt:Int) (e:List Ex) (cs:List Int) (h:op=10):zr Tryz.prog zaP [.agg [.int .i64 op,.int .i64 var,.int .i64 width,.int .i64 next,.int .i64 els,.int .u32 tgt,encL 5 encX e,za cs]] (·=.bool (zJ op var width next els tgt cs.length)):=by
 refine fn_x zbm rfl ?_;unfold zaU;have hB:=hBig
 (refine Qd ?_;intros)
 by_cases q0:var=0<;>(refine Qd ?_;intros)
 case neg =>exact⟨_,.bool _ _,congrArg AV.bool (by unfold zJ;exact lb)⟩
 by_cases q1:width=0<;>(refine Qd ?_;intros)
 case neg =>exact⟨_,.bool _ _,congrArg AV.bool (by unfold zJ;exact lb)⟩
 by_cases q2:next=0<;>(refine Qd ?_;intros)
 case neg =>exact⟨_,.bool _ _,congrArg AV.bool (by unfold zJ;exact lb)⟩
 by_cases q3:els=0<;>(refine Qd ?_;intros)
 case neg =>exact⟨_,.bool _ _,congrArg AV.bool (by unfold zJ;exact lb)⟩
 by_cases q4:tgt=0<;>(refine Qd ?_;intros)
 case neg =>exact⟨_,.bool _ _,congrArg AV.bool (by unfold zJ;exact lb)⟩
 exact⟨_,.bool _ _,congrArg AV.bool (by unfold zJ;exact lb)⟩
theorem zrj (op var width next els tgt:Int) (e:List Ex) (cs:List Int) (h1:1≤op) (h2:op≤10):zr Tryz.prog zaP [.agg [.int .i64 op,.int .i64 var,.int .i64 width,.int .i64 next,.int .i64 els,.int .u32 tgt,encL 5 encX e,za cs]] (·=.bool (zJ op var width next els tgt cs.length)):=by
 by_cases h10:op=1
 · exact zr5 op var width next els tgt e cs h10
 by_cases h20:op=2
 · exact zsC op var width next els tgt e cs h20
 by_cases h30:op=3
 · exact zr8 op var width next els tgt e cs h30
 by_cases h40:op=4
 · exact zsy op var width next els tgt e cs h40
 by_cases h50:op=5
 · exact zr1 op var width next els tgt e cs h50
 by_cases h60:op=6
 · exact ztv op var width next els tgt e cs h60
 by_cases h70:op=7
 · exact ztt op var width next els tgt e cs h70
 by_cases h80:op=8
 · exact ztb op var width next els tgt e cs h80
 by_cases h90:op=9
 · exact zso op var width next els tgt e cs h90
 by_cases h100:op=10
 · exact zqS op var width next els tgt e cs h100
 omega
end Go.Ab
