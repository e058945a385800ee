/-
  Part 9 of the proof: how the calls of this program run, over values instead of memory, and what each function computes.
-/
import Derived.Test.YtihlaappclhhaaaGreatKh
set_option maxRecDepth 100000
set_option cbv.warning false
set_option cbv.maxSteps 100000000
set_option linter.unusedVariables false
set_option linter.unusedSimpArgs false
set_option linter.unnecessarySimpa false
set_option linter.unusedSectionVars false
open Bool renaming and_false→Wa,and_true→Wc,and_eq_true→Wg
open List renaming all_eq_not_any_not→Wd,all_cons→Wf,take_add_one→Wh,getElem?_eq_getElem→Wi,findIdx?_eq_some_iff_getElem→Wj,findIdx?_eq_none_iff→Wk
open And renaming intro→We
namespace Go.Ab
end Go.Ab
namespace Go.Ab
open Go.RowKit Go.Proofs
theorem fldP{off n m:Nat}{c:List AV}{H:AH}{nx:Nat}:zeg off n (encP m c) H nx=⟨off+n≤m,True,.iptr n (fun j=>c.getD (off+j) .undef),H,nx⟩:=rfl
theorem zP{n m:Nat}{c:List AV}{H:AH}{nx:Nat}:zfo true n (encP m c) H nx=⟨n≤m,(AV.agg (tab (fun j=>c.getD j .undef) n 0)).wf,.agg (tab (fun j=>c.getD j .undef) n 0),H,nx⟩:=rfl
theorem zdw:∀{e:Ex},(encX e).length=5
 | .mk _ _ _ _ _=>by rw[zgj];rfl
theorem zcs:∀{e:Ex},[(encX e).getD 0 .undef,(encX e).getD 1 .undef,(encX e).getD 2 .undef,(encX e).getD 3 .undef,(encX e).getD 4 .undef]=encX e
 | .mk _ _ _ _ _=>by rw[zgj];rfl
theorem zo:∀{e:Ex},zH (encX e)=true
 | .mk _ _ _ _ _=>by rw[zgj];rfl
theorem zcr:∀{e:Nd},zH (encN e)=true
 | .mk _ _ _=>by rw[zEb];rfl
theorem flX{r:List AV}(h:r.all AV.flat=true):∀{e:Ex},(AV.agg (encX e)::r).all AV.flat=true
 | .mk _ _ _ _ _=>by rw[zgj,Wf,h];rfl
mutual
def zfH:Ex→Nat
 | .mk _ _ _ _ l=>1+z7 l
def z7:List Ex→Nat
 | []=>0
 | e::l=>zfH e+z7 l
end
theorem zq0:∀{l:List Ex}{y:Ex},y∈l→zfH y≤z7 l
 | [],y,hy=>by simp at hy
 |
  a::l,y,hy=>by
  rw[z7]
  rcases List.mem_cons.1 hy with rfl|hy
  · omega
  · have:=zq0 hy;omega
theorem zyE{l:List Int}{H:AH}:zgy 1 (encL 1 (fun n=>[.int .i64 n]) l) H=some (l.map cI):=zoO (fun _ _=>rfl)
theorem zCY{H H2:AH}{σ:Nat→Nat→Option (Nat × Nat × Nat)}{D:Nat→Nat→Prop}{t:Bool}:∀(e:Ex)(j:Nat),j < 5→Vw H H2 σ D t ((encX e).getD j .undef) ((encX e).getD j .undef)
 |
  .mk _ _ _ _ _,j,hj=>by
  rw[zgj]
  match j,hj with
  | 0,_=>exact .int _ _ _
  | 1,_=>exact .int _ _ _
  | 2,_=>exact .int _ _ _
  | 3,_=>exact .int _ _ _
  | 4,_=>exact .sl _ _ _ _
theorem zCK{H H2:AH}{σ:Nat→Nat→Option (Nat × Nat × Nat)}{D:Nat→Nat→Prop}{t:Bool}{r q g:Nat}{l:List Ex}(hD:D r q)(hg:H.get r q=some (.row 5 (l.map encX) g))(hb:l.length≤big):Vw H H2 σ D t (.own r q g 0 l.length) (encL 5 encX l) :=
 ziq hD hg hb fun a _ j hj=>zCY a j hj
def fm(p:NdF→List Int)(l:List Nd):List Int:=l.flatMap fun x=>p x.f
def zn7(A:List (List Int)):AV:=encL 1 (fun r=>[za r]) A
theorem zmc{α:Type}{A B:List α}{i:Nat}(h:A.take i=B.take i)(ha:i < A.length)(hb:i < B.length)(he:A[i]=B[i]):A.take (i+1)=B.take (i+1):=by rw[Wh,Wh,h,Wi ha,Wi hb,he]
theorem vw_LL{H H2:AH}{σ:Nat→Nat→Option (Nat × Nat × Nat)}{D:Nat→Nat→Prop}{t:Bool}{r q g:Nat}{l:List (List Int)}(hD:D r q)(hg:H.get r q=some (.row 1 (l.map fun r=>[za r]) g))(hb:l.length≤big):
  Vw H H2 σ D t (.own r q g 0 l.length) (zn7 l):=by
 refine ziq hD hg hb (fun a _ j hj=>?_)
 obtain rfl:j=0:=by omega
 exact .sl _ _ _ _
theorem zn3{n:Nat}{c:List AV}(h:zH c=true):zr (List.replicate n c):=fun d hd=>by rw[List.eq_of_mem_replicate hd];exact h
def zzt(v:Int):Bool:=decide (0≤v∧v < 65536)
def zs9(w:Int):Bool:=decide (w=1∨w=2∨w=4)
theorem zjL(v:Int):zz Tryz.prog zh6 [.int .i64 v] (·=.bool (zzt v)):=by
 refine fn_x zrG rfl ?_
 unfold zmX zzt;conv in dcC _ _=>cbv
 by_cases h1:0≤v
 · (refine Gw2 @dT @zjJ.eq_1 ?_;intros);exact⟨_,.bool _ _,congrArg _ (decide_eq_decide.2 (by omega))⟩
 · (refine Gw2 @dF @zjJ.eq_1 ?_;intros);exact⟨_,.bool _ _,rfl⟩
theorem zpk(w:Int):zz Tryz.prog zk2 [.int .i64 w] (·=.bool (zs9 w)):=by
 refine fn_x zuX rfl ?_
 unfold zpv zs9;conv in dcC _ _=>cbv
 by_cases h1:w=1
 · (refine Gw2 @dT @zi8.eq_1 ?_;intros);exact⟨_,.bool _ _,rfl⟩
 by_cases h2:w=2
 · (refine Gw3 @dF @dT @zi8.eq_1 ?_;intros);exact⟨_,.bool _ _,rfl⟩
 · (refine Gw2 @dF @zi8.eq_1 ?_;intros);exact⟨_,.bool _ _,congrArg _ (decide_eq_decide.2 (by omega))⟩
mutual
def zwg:Ex→Int→Bool
 | .mk _ _ _ _ l,m=>if m < 1 then true else zuF l (m - 1)
def zuF:List Ex→Int→Bool
 | [],_=>false
 | e::l,m=>zwg e m||zuF l m
end
theorem zse:∀(l:List Ex)(m:Int),zuF l m=l.any (zwg · m)
 | [],m=>by rw[zuF];rfl
 | e::l,m=>by rw[zuF,zse l m];rfl
def zC(op n v w:Int)(k:Nat):Bool:=decide ((op=1∧v=0∧w=0∧k=0)∨(op=2∧n=0∧w=0∧k=0∧0≤v∧v < 65536)∨((op=16∨op=17)∧n=0∧v=0∧w=0∧k=1)∨(op=18∧n=0∧v=0∧(w=1∨w=2∨w=4)∧k=1)∨(op=19∧n=0∧v=0∧(w=1∨w=2)∧k=1)∨(3≤op∧op≤15∧n=0∧v=0∧w=0∧k=2))
mutual
def zg6:Ex→Bool
 | .mk op n v w l=>zeO l&&zC op n v w l.length
def zeO:List Ex→Bool
 | []=>true
 | e::l=>zg6 e&&zeO l
end
theorem zeE:∀(l:List Ex),zeO l=l.all zg6
 | []=>by rw[zeO];rfl
 | e::l=>by rw[zeO,zeE l];rfl
def zmO(e:Ex):Int:=if zwg e 64=true then 20 else if zg6 e=true then 0 else 2
structure PredE(fv:AV)(l:List Ex)(p:Ex→Bool):Prop where
 ex:∃f caps,fv=.fn (.func f) caps∧zf7 Tryz.prog f=true∧zH caps=true∧∀s∈l,zz Tryz.prog f ([.agg (encX s)]++caps) (·=.bool (p s))
theorem zfw:∀{l:List AV},zH l=true→l.all AV.flat=true
 | [],_=>rfl
 |
  a::l,h=>by
  simp only[zH,Wg] at h;simp only[Wf,Wg];refine⟨?_,zfw h.2⟩
  cases a<;>first|rfl|exact absurd h.1 (by simp[AV.flat0])
theorem zwE{fv:AV}{l:List Ex}{p:Ex→Bool}(hp:PredE fv l p){s:Ex}(hs:s∈l){H:AH}{nx:Nat}{k:AV→AH→Nat→Prop}(hk:k (.bool (p s)) H nx):zpt Tryz.prog fv [.agg (encX s)] H nx k:=by obtain⟨f,caps,rfl,hg,hf,hx⟩:=hp.ex;rw[zlY];refine⟨hg,zi (zf (hx s hs) ?_) hk⟩;simp only[List.cons_append,List.nil_append,Wf,Wg];exact⟨by have:=flX (r:=[]) rfl (e:=s);simpa using this,zfw hf⟩
theorem zgY{fv:AV}{l:List Ex}{p:Ex→Bool}(hp:PredE fv l p){H H2:AH}{σ:Nat→Nat→Option (Nat × Nat × Nat)}{D:Nat→Nat→Prop}{t:Bool}:Vw H H2 σ D t fv fv:=by
 obtain⟨f,caps,rfl,hg,hf,hx⟩:=hp.ex
 refine .fn _ _ _ _ rfl fun i a b h1 h2=>?_
 rw[h1] at h2;cases h2;exact zdD (zcU hf h1)
def idxI(o:Option Nat):Int:=match o with|some i=>(i:Int)|none => -1
theorem zmy(l:List Ex)(fv:AV)(p:Ex→Bool)(hp:PredE fv l p):zz Tryz.prog zaV [encL 5 encX l,fv] (·=.int .i64 (idxI (l.findIdx? p))):=by
 refine fn_x ze0 rfl ?_
 unfold zbZ;conv in dcC _ _=>cbv
 have hB:=hBig;(refine Gw0 ?_;intros);refine zd (fun i:Nat=>([(0,encL 5 encX l),(1,fv),(7,.int .i64 l.length),(8,.int .i64 i)],[])) 0 (fun i=>i≤l.length∧∀j (h:j < l.length),j < i→p l[j]=false) (fun i=>l.length - i) 0 ⟨Nat.zero_le _,fun j _ h=>by omega⟩ (Ent.keep rfl fin5) ?_;intro i ⟨hi,hno⟩ wf
 unfold zbv;conv in dcC _ _=>cbv
 (refine Gw0 ?_;intros)
 (refine zw (fun h=>?_) (fun h=>?_))<;>(try simp only[dcd] at h)
 ·
  have hi':i < l.length:=by omega
  (repeat first|simp(disch:=try exact dis1) only[evD,Nat.reduceBEq,Nat.reduceAdd,Nat.reduceLeDiff,zn hi',zdw,zcs]|with_reducible first|intro _|refine aJ ?_)
  refine zwE hp (List.getElem_mem hi') ?_;(refine Gw0 ?_;intros)
  (refine zw (fun h2=>?_) (fun h2=>?_))<;>(try simp only[dcd] at h2)
  ·
   (refine Gw1 @zaE.eq_1 ?_;intros)
   have e:l.findIdx? p=some i:=by rw[Wj];exact⟨hi',h2,fun j hj=>by rw[hno j (by omega) hj];simp⟩
   rw[e];exact⟨_,.int _ _ _,rfl⟩
  ·
   (refine Gw0 ?_;intros);refine⟨i+1,⟨by omega,fun j hj hji=>?_⟩,by omega,Ent.keep rfl fin5⟩
   by_cases hje:j=i
   · subst hje;simpa using h2
   · exact hno j hj (by omega)
 ·
  unfold zbt;(refine Gw1 @zaE.eq_1 ?_;intros)
  have e:l.findIdx? p=none:=by rw[Wk];intro x hx;obtain⟨j,hj,rfl⟩:=List.mem_iff_getElem.1 hx;exact hno j hj (by omega)
  rw[e];exact⟨_,.int _ _ _,rfl⟩
theorem zC1{l:List Ex}{p:Ex→Bool}:decide (idxI (l.findIdx? p) ≥ 0)=l.any p:=by
 cases h:l.findIdx? p with
 |
  none =>
  have:=Wk.1 h;rw[decide_eq_false (by simp[idxI])];symm;rw[List.any_eq_false];intro x hx;rw[this x hx];simp
 |
  some i =>
  obtain⟨h1,h2,_⟩:=Wj.1 h;rw[decide_eq_true (by simp[idxI])];exact(zvc h1 h2).symm
theorem zV(l:List Ex)(fv:AV)(p:Ex→Bool)(hp:PredE fv l p):zz Tryz.prog zac [encL 5 encX l,fv] (·=.bool (l.any p)):=by
 refine fn_x zeh rfl ?_
 unfold zbz;conv in dcC _ _=>cbv
 (refine Gw0 ?_;intros);refine zi (zaH (D:=noR) (zmy l fv p hp) (.cons (zai rfl) (.cons (zgY hp) .nil)) (.inl rfl)) ?_;(refine Gw1 @zbw.eq_1 ?_;intros);refine⟨_,.bool _ _,?_⟩;rw[←zC1]
theorem ub:type_of% @fldP:=@fldP
theorem zsU:∀(k:Nat)(e:Ex)(m:Int),zfH e≤k → -1000≤m→m≤1000→zz Tryz.prog zjv [.agg (encX e),.int .i64 m] (·=.bool (!zwg e m)):=by
 intro k
 induction k with
 | zero=>intro e m h;obtain⟨_,_,_,_,l⟩:=e;rw[zfH] at h;omega
 | succ k ih =>
 intro e m hk hm1 hm2;obtain⟨op,nn,v,w,l⟩:=e;refine fn_x zto rfl ?_;unfold zof;have hB:=hBig;rw[zfH] at hk;rw[zgj,zwg]
 by_cases h1:m < 1
 · rw[if_pos h1];(refine Gw4 @ub @dF @encP.eq_1 @zkL.eq_1 ?_;intros);exact⟨_,.bool _ _,rfl⟩
 ·
  rw[if_neg h1,zse]
  have hp:PredE (.fn (.func zjK) [encP 1 [.int .i64 m]]) l (zwg · (m - 1)):=by
   refine⟨_,_,rfl,by kernel_rfl,rfl,fun s hs=>?_⟩;have hm:=zq0 hs;refine fn_x zp5 rfl ?_
   unfold zl6;conv in dcC _ _=>cbv
   (refine Gw4 @zdw @zo @zcs @encP.eq_1 ?_;intros);refine zi (zf (ih s (m - 1) (by omega) (by omega) (by omega)) (flX rfl)) ?_;(refine Gw1 @zlV.eq_1 ?_;intros);exact⟨_,.bool _ _,rfl⟩
  (refine Gw3 @ub @dT @encP.eq_1 ?_;intros);refine zi (zaH (D:=noR) (zV l _ _ hp) (.cons (zai rfl) (.cons (zgY hp) .nil)) (.inl rfl)) ?_;(refine Gw1 @zkL.eq_1 ?_;intros);exact⟨_,.bool _ _,rfl⟩
theorem Qe{p q:Prop}(k:q)(h:Im q p:=by(repeat first|simp(disch:=try exact dis1) only[evD,Nat.reduceBEq,Nat.reduceAdd,Nat.reduceLeDiff,dT,dF,fldP,zo,zm] | ((with_reducible apply Im.i);intro _) | ((with_reducible apply Im.a);omega));exact Im.r):p:=h k
theorem ztD{op nn v w:Int}{l:List Ex}(h:op=1)(hp:PredE (.fn (.func zas) []) l (fun x => !zg6 x)):zz Tryz.prog zaZ [.agg [.int .i64 op,.int .u32 nn,.int .i64 v,.int .i64 w,encL 5 encX l]] (·=.bool (zeO l&&zC op nn v w l.length)):=by
 refine fn_x zbJ rfl ?_;unfold zbb;have hB:=hBig;(refine Qe ?_;intros)
 by_cases q0:v=0<;>(refine Qe ?_;intros)
 case neg =>exact⟨_,.bool _ _,congrArg AV.bool (by rw[show zC op nn v w l.length=false from by unfold zC;exact dF (by omega),Wa])⟩
 by_cases q1:w=0<;>(refine Qe ?_;intros)
 case neg =>exact⟨_,.bool _ _,congrArg AV.bool (by rw[show zC op nn v w l.length=false from by unfold zC;exact dF (by omega),Wa])⟩
 by_cases q2:l.length=0<;>(refine Qe ?_;intros)
 case neg =>exact⟨_,.bool _ _,congrArg AV.bool (by rw[show zC op nn v w l.length=false from by unfold zC;exact dF (by omega),Wa])⟩
 refine zi (zaH (D:=noR) (zV l _ _ hp) (.cons (zai rfl) (.cons (zgY hp) .nil)) (.inl rfl)) ?_;(refine Qe ?_;intros);exact⟨_,.bool _ _,congrArg AV.bool (by rw[show zC op nn v w l.length=true from by unfold zC;exact dT (by omega),Wc,zeE,Wd])⟩
theorem zu7{op nn v w:Int}{l:List Ex}(h:op=2)(hp:PredE (.fn (.func zas) []) l (fun x => !zg6 x)):zz Tryz.prog zaZ [.agg [.int .i64 op,.int .u32 nn,.int .i64 v,.int .i64 w,encL 5 encX l]] (·=.bool (zeO l&&zC op nn v w l.length)):=by
 refine fn_x zbJ rfl ?_;unfold zbb;have hB:=hBig;(refine Qe ?_;intros);refine zi (zf (zjL v) rfl) ?_;unfold zzt
 by_cases hv:0≤v∧v < 65536<;>(refine Qe ?_;intros)
 case neg =>exact⟨_,.bool _ _,congrArg AV.bool (by rw[show zC op nn v w l.length=false from by unfold zC;exact dF (by omega),Wa])⟩
 by_cases q0:nn=0<;>(refine Qe ?_;intros)
 case neg =>exact⟨_,.bool _ _,congrArg AV.bool (by rw[show zC op nn v w l.length=false from by unfold zC;exact dF (by omega),Wa])⟩
 by_cases q1:w=0<;>(refine Qe ?_;intros)
 case neg =>exact⟨_,.bool _ _,congrArg AV.bool (by rw[show zC op nn v w l.length=false from by unfold zC;exact dF (by omega),Wa])⟩
 by_cases q2:l.length=0<;>(refine Qe ?_;intros)
 case neg =>exact⟨_,.bool _ _,congrArg AV.bool (by rw[show zC op nn v w l.length=false from by unfold zC;exact dF (by omega),Wa])⟩
 refine zi (zaH (D:=noR) (zV l _ _ hp) (.cons (zai rfl) (.cons (zgY hp) .nil)) (.inl rfl)) ?_;(refine Qe ?_;intros);exact⟨_,.bool _ _,congrArg AV.bool (by rw[show zC op nn v w l.length=true from by unfold zC;exact dT (by omega),Wc,zeE,Wd])⟩
theorem zuR{op nn v w:Int}{l:List Ex}(h:3≤op)(h2:op≤15)(hp:PredE (.fn (.func zas) []) l (fun x => !zg6 x)):zz Tryz.prog zaZ [.agg [.int .i64 op,.int .u32 nn,.int .i64 v,.int .i64 w,encL 5 encX l]] (·=.bool (zeO l&&zC op nn v w l.length)):=by
 refine fn_x zbJ rfl ?_;unfold zbb;have hB:=hBig;(refine Qe ?_;intros)
 by_cases q0:nn=0<;>(refine Qe ?_;intros)
 case neg =>exact⟨_,.bool _ _,congrArg AV.bool (by rw[show zC op nn v w l.length=false from by unfold zC;exact dF (by omega),Wa])⟩
 by_cases q1:v=0<;>(refine Qe ?_;intros)
 case neg =>exact⟨_,.bool _ _,congrArg AV.bool (by rw[show zC op nn v w l.length=false from by unfold zC;exact dF (by omega),Wa])⟩
 by_cases q2:w=0<;>(refine Qe ?_;intros)
 case neg =>exact⟨_,.bool _ _,congrArg AV.bool (by rw[show zC op nn v w l.length=false from by unfold zC;exact dF (by omega),Wa])⟩
 by_cases q3:l.length=2<;>(refine Qe ?_;intros)
 case neg =>exact⟨_,.bool _ _,congrArg AV.bool (by rw[show zC op nn v w l.length=false from by unfold zC;exact dF (by omega),Wa])⟩
 refine zi (zaH (D:=noR) (zV l _ _ hp) (.cons (zai rfl) (.cons (zgY hp) .nil)) (.inl rfl)) ?_;(refine Qe ?_;intros);exact⟨_,.bool _ _,congrArg AV.bool (by rw[show zC op nn v w l.length=true from by unfold zC;exact dT (by omega),Wc,zeE,Wd])⟩
theorem zts{op nn v w:Int}{l:List Ex}(h:op=16)(hp:PredE (.fn (.func zas) []) l (fun x => !zg6 x)):zz Tryz.prog zaZ [.agg [.int .i64 op,.int .u32 nn,.int .i64 v,.int .i64 w,encL 5 encX l]] (·=.bool (zeO l&&zC op nn v w l.length)):=by
 refine fn_x zbJ rfl ?_;unfold zbb;have hB:=hBig;(refine Qe ?_;intros)
 by_cases q0:nn=0<;>(refine Qe ?_;intros)
 case neg =>exact⟨_,.bool _ _,congrArg AV.bool (by rw[show zC op nn v w l.length=false from by unfold zC;exact dF (by omega),Wa])⟩
 by_cases q1:v=0<;>(refine Qe ?_;intros)
 case neg =>exact⟨_,.bool _ _,congrArg AV.bool (by rw[show zC op nn v w l.length=false from by unfold zC;exact dF (by omega),Wa])⟩
 by_cases q2:w=0<;>(refine Qe ?_;intros)
 case neg =>exact⟨_,.bool _ _,congrArg AV.bool (by rw[show zC op nn v w l.length=false from by unfold zC;exact dF (by omega),Wa])⟩
 by_cases q3:l.length=1<;>(refine Qe ?_;intros)
 case neg =>exact⟨_,.bool _ _,congrArg AV.bool (by rw[show zC op nn v w l.length=false from by unfold zC;exact dF (by omega),Wa])⟩
 refine zi (zaH (D:=noR) (zV l _ _ hp) (.cons (zai rfl) (.cons (zgY hp) .nil)) (.inl rfl)) ?_;(refine Qe ?_;intros);exact⟨_,.bool _ _,congrArg AV.bool (by rw[show zC op nn v w l.length=true from by unfold zC;exact dT (by omega),Wc,zeE,Wd])⟩
theorem zty{op nn v w:Int}{l:List Ex}(h:op=17)(hp:PredE (.fn (.func zas) []) l (fun x => !zg6 x)):zz Tryz.prog zaZ [.agg [.int .i64 op,.int .u32 nn,.int .i64 v,.int .i64 w,encL 5 encX l]] (·=.bool (zeO l&&zC op nn v w l.length)):=by
 refine fn_x zbJ rfl ?_;unfold zbb;have hB:=hBig;(refine Qe ?_;intros)
 by_cases q0:nn=0<;>(refine Qe ?_;intros)
 case neg =>exact⟨_,.bool _ _,congrArg AV.bool (by rw[show zC op nn v w l.length=false from by unfold zC;exact dF (by omega),Wa])⟩
 by_cases q1:v=0<;>(refine Qe ?_;intros)
 case neg =>exact⟨_,.bool _ _,congrArg AV.bool (by rw[show zC op nn v w l.length=false from by unfold zC;exact dF (by omega),Wa])⟩
 by_cases q2:w=0<;>(refine Qe ?_;intros)
 case neg =>exact⟨_,.bool _ _,congrArg AV.bool (by rw[show zC op nn v w l.length=false from by unfold zC;exact dF (by omega),Wa])⟩
 by_cases q3:l.length=1<;>(refine Qe ?_;intros)
 case neg =>exact⟨_,.bool _ _,congrArg AV.bool (by rw[show zC op nn v w l.length=false from by unfold zC;exact dF (by omega),Wa])⟩
 refine zi (zaH (D:=noR) (zV l _ _ hp) (.cons (zai rfl) (.cons (zgY hp) .nil)) (.inl rfl)) ?_;(refine Qe ?_;intros);exact⟨_,.bool _ _,congrArg AV.bool (by rw[show zC op nn v w l.length=true from by unfold zC;exact dT (by omega),Wc,zeE,Wd])⟩
theorem zs2{op nn v w:Int}{l:List Ex}(h:op=18)(hp:PredE (.fn (.func zas) []) l (fun x => !zg6 x)):zz Tryz.prog zaZ [.agg [.int .i64 op,.int .u32 nn,.int .i64 v,.int .i64 w,encL 5 encX l]] (·=.bool (zeO l&&zC op nn v w l.length)):=by
 refine fn_x zbJ rfl ?_;unfold zbb;have hB:=hBig;(refine Qe ?_;intros);refine zi (zf (zpk w) rfl) ?_;unfold zs9
 by_cases hv:w=1∨w=2∨w=4<;>(refine Qe ?_;intros)
 case neg =>exact⟨_,.bool _ _,congrArg AV.bool (by rw[show zC op nn v w l.length=false from by unfold zC;exact dF (by omega),Wa])⟩
 by_cases q0:nn=0<;>(refine Qe ?_;intros)
 case neg =>exact⟨_,.bool _ _,congrArg AV.bool (by rw[show zC op nn v w l.length=false from by unfold zC;exact dF (by omega),Wa])⟩
 by_cases q1:v=0<;>(refine Qe ?_;intros)
 case neg =>exact⟨_,.bool _ _,congrArg AV.bool (by rw[show zC op nn v w l.length=false from by unfold zC;exact dF (by omega),Wa])⟩
 by_cases q2:l.length=1<;>(refine Qe ?_;intros)
 case neg =>exact⟨_,.bool _ _,congrArg AV.bool (by rw[show zC op nn v w l.length=false from by unfold zC;exact dF (by omega),Wa])⟩
 refine zi (zaH (D:=noR) (zV l _ _ hp) (.cons (zai rfl) (.cons (zgY hp) .nil)) (.inl rfl)) ?_;(refine Qe ?_;intros);exact⟨_,.bool _ _,congrArg AV.bool (by rw[show zC op nn v w l.length=true from by unfold zC;exact dT (by omega),Wc,zeE,Wd])⟩
theorem zrJ{op nn v w:Int}{l:List Ex}(h:op=19)(hw:w=1)(hp:PredE (.fn (.func zas) []) l (fun x => !zg6 x)):zz Tryz.prog zaZ [.agg [.int .i64 op,.int .u32 nn,.int .i64 v,.int .i64 w,encL 5 encX l]] (·=.bool (zeO l&&zC op nn v w l.length)):=by
 refine fn_x zbJ rfl ?_;unfold zbb;have hB:=hBig;(refine Qe ?_;intros)
 by_cases q0:nn=0<;>(refine Qe ?_;intros)
 case neg =>exact⟨_,.bool _ _,congrArg AV.bool (by rw[show zC op nn v w l.length=false from by unfold zC;exact dF (by omega),Wa])⟩
 by_cases q1:v=0<;>(refine Qe ?_;intros)
 case neg =>exact⟨_,.bool _ _,congrArg AV.bool (by rw[show zC op nn v w l.length=false from by unfold zC;exact dF (by omega),Wa])⟩
 by_cases q2:l.length=1<;>(refine Qe ?_;intros)
 case neg =>exact⟨_,.bool _ _,congrArg AV.bool (by rw[show zC op nn v w l.length=false from by unfold zC;exact dF (by omega),Wa])⟩
 refine zi (zaH (D:=noR) (zV l _ _ hp) (.cons (zai rfl) (.cons (zgY hp) .nil)) (.inl rfl)) ?_;(refine Qe ?_;intros);exact⟨_,.bool _ _,congrArg AV.bool (by rw[show zC op nn v w l.length=true from by unfold zC;exact dT (by omega),Wc,zeE,Wd])⟩
theorem zrA{op nn v w:Int}{l:List Ex}(h:op=19)(hw:w=2)(hp:PredE (.fn (.func zas) []) l (fun x => !zg6 x)):zz Tryz.prog zaZ [.agg [.int .i64 op,.int .u32 nn,.int .i64 v,.int .i64 w,encL 5 encX l]] (·=.bool (zeO l&&zC op nn v w l.length)):=by
 refine fn_x zbJ rfl ?_;unfold zbb;have hB:=hBig;(refine Qe ?_;intros)
 by_cases q0:nn=0<;>(refine Qe ?_;intros)
 case neg =>exact⟨_,.bool _ _,congrArg AV.bool (by rw[show zC op nn v w l.length=false from by unfold zC;exact dF (by omega),Wa])⟩
 by_cases q1:v=0<;>(refine Qe ?_;intros)
 case neg =>exact⟨_,.bool _ _,congrArg AV.bool (by rw[show zC op nn v w l.length=false from by unfold zC;exact dF (by omega),Wa])⟩
 by_cases q2:l.length=1<;>(refine Qe ?_;intros)
 case neg =>exact⟨_,.bool _ _,congrArg AV.bool (by rw[show zC op nn v w l.length=false from by unfold zC;exact dF (by omega),Wa])⟩
 refine zi (zaH (D:=noR) (zV l _ _ hp) (.cons (zai rfl) (.cons (zgY hp) .nil)) (.inl rfl)) ?_;(refine Qe ?_;intros);exact⟨_,.bool _ _,congrArg AV.bool (by rw[show zC op nn v w l.length=true from by unfold zC;exact dT (by omega),Wc,zeE,Wd])⟩
theorem zrE{op nn v w:Int}{l:List Ex}(h:op=19)(h1:w≠1)(h2:w≠2)(hp:PredE (.fn (.func zas) []) l (fun x => !zg6 x)):zz Tryz.prog zaZ [.agg [.int .i64 op,.int .u32 nn,.int .i64 v,.int .i64 w,encL 5 encX l]] (·=.bool (zeO l&&zC op nn v w l.length)):=by refine fn_x zbJ rfl ?_;unfold zbb;have hB:=hBig;(refine Qe ?_;intros);exact⟨_,.bool _ _,congrArg AV.bool (by rw[show zC op nn v w l.length=false from by unfold zC;exact dF (by omega),Wa])⟩
theorem zvp{op nn v w:Int}{l:List Ex}(h0:op < 1)(hp:PredE (.fn (.func zas) []) l (fun x => !zg6 x)):zz Tryz.prog zaZ [.agg [.int .i64 op,.int .u32 nn,.int .i64 v,.int .i64 w,encL 5 encX l]] (·=.bool (zeO l&&zC op nn v w l.length)):=by refine fn_x zbJ rfl ?_;unfold zbb;have hB:=hBig;(refine Qe ?_;intros);exact⟨_,.bool _ _,congrArg AV.bool (by rw[show zC op nn v w l.length=false from by unfold zC;exact dF (by omega),Wa])⟩
theorem zvs{op nn v w:Int}{l:List Ex}(h0:19 < op)(hp:PredE (.fn (.func zas) []) l (fun x => !zg6 x)):zz Tryz.prog zaZ [.agg [.int .i64 op,.int .u32 nn,.int .i64 v,.int .i64 w,encL 5 encX l]] (·=.bool (zeO l&&zC op nn v w l.length)):=by refine fn_x zbJ rfl ?_;unfold zbb;have hB:=hBig;(refine Qe ?_;intros);exact⟨_,.bool _ _,congrArg AV.bool (by rw[show zC op nn v w l.length=false from by unfold zC;exact dF (by omega),Wa])⟩
theorem ztB:∀(k:Nat)(e:Ex),zfH e≤k→zz Tryz.prog zaZ [.agg (encX e)] (·=.bool (zg6 e)):=by
 intro k
 induction k with
 | zero=>intro e h;obtain⟨_,_,_,_,l⟩:=e;rw[zfH] at h;omega
 | succ k ih =>
 intro e hk;obtain⟨op,nn,v,w,l⟩:=e;rw[zfH] at hk;rw[zgj,zg6]
 have hp:PredE (.fn (.func zas) []) l (fun x => !zg6 x):=by
  refine⟨_,_,rfl,by kernel_rfl,rfl,fun s hs=>?_⟩;have hm:=zq0 hs;refine fn_x zrx rfl ?_
  unfold zmV;conv in dcC _ _=>cbv
  have hB:=hBig;(refine Gw4 @zdw @zo @zcs @encP.eq_1 ?_;intros);refine zi (zf (ih s (by omega)) (flX rfl)) ?_;(refine Gw1 @zm6.eq_1 ?_;intros);exact⟨_,.bool _ _,rfl⟩
 by_cases h1:op=1
 · exact ztD h1 hp
 by_cases h2:op=2
 · exact zu7 h2 hp
 by_cases h3:3≤op∧op≤15
 · exact zuR h3.1 h3.2 hp
 by_cases h16:op=16
 · exact zts h16 hp
 by_cases h17:op=17
 · exact zty h17 hp
 by_cases h18:op=18
 · exact zs2 h18 hp
 by_cases h19:op=19
 ·
  by_cases w1:w=1
  · exact zrJ h19 w1 hp
  by_cases w2:w=2
  · exact zrA h19 w2 hp
  exact zrE h19 w1 w2 hp
 by_cases h0:op < 1
 · exact zvp h0 hp
 exact zvs (by omega) hp
theorem zqX(e:Ex):zz Tryz.prog zjF [.agg (encX e)] (·=.int .i64 (zmO e)):=by
 refine fn_x zqF rfl ?_
 unfold zlO zmO;conv in dcC _ _=>cbv
 have hB:=hBig;(refine Gw3 @zdw @zo @zcs ?_;intros);refine zi (zf (zsU (zfH e) e 64 (Nat.le_refl _) (by omega) (by omega)) (flX rfl)) ?_
 cases zwg e 64 with
 |
  true =>
  (refine Gw1 @zgk.eq_1 ?_;intros);exact⟨_,.int _ _ _,rfl⟩
 |
  false =>
  (refine Gw3 @zdw @zo @zcs ?_;intros);refine zi (zf (ztB (zfH e) e (Nat.le_refl _)) (flX rfl)) ?_
  cases zg6 e with
  |
   true =>
   (refine Gw1 @zgk.eq_1 ?_;intros);exact⟨_,.int _ _ _,rfl⟩
  |
   false =>
   (refine Gw1 @zgk.eq_1 ?_;intros);exact⟨_,.int _ _ _,rfl⟩
def za6(op:Int):Int:=if op=2 then 2 else if op=1∨op=4∨op=7∨op=8 then 1 else if op=3∨op=5∨op=6∨op=9∨op=10 then 0 else -1
def zy(op var width next els tgt:Int)(k:Nat):Bool:=decide ((((op=1∨op=3)∨var=0)∧(op=2∨width=0)∧((op=6∨op=7)∨next=0)∧(op=7∨els=0)∧(op=5∨tgt=0)∧(op=8∨k=0))∧(0≤var∧var < 65536)∧(op=2→width=1∨width=2∨width=4)∧(op=8→1≤k∧k≤64))
theorem uo:type_of% @zab.eq_1:=@zab.eq_1
theorem zoU(op:Int):zz Tryz.prog zhh [.int .i64 op] (·=.int .i64 (za6 op)):=by
 refine fn_x zot rfl ?_
 unfold zjY;conv in dcC _ _=>cbv
 by_cases h1:op=1
 ·
  have hr:za6 op=1:=by unfold za6;subst h1;rfl
  rw[hr];(refine Gw3 @dT @dF @uo ?_;intros);exact⟨_,.int _ _ _,rfl⟩
 by_cases h4:op=4
 ·
  have hr:za6 op=1:=by unfold za6;subst h4;rfl
  rw[hr];(refine Gw3 @dT @dF @uo ?_;intros);exact⟨_,.int _ _ _,rfl⟩
 by_cases h7:op=7
 ·
  have hr:za6 op=1:=by unfold za6;subst h7;rfl
  rw[hr];(refine Gw3 @dT @dF @uo ?_;intros);exact⟨_,.int _ _ _,rfl⟩
 by_cases h8:op=8
 ·
  have hr:za6 op=1:=by unfold za6;subst h8;rfl
  rw[hr];(refine Gw3 @dT @dF @uo ?_;intros);exact⟨_,.int _ _ _,rfl⟩
 by_cases h2:op=2
 ·
  have hr:za6 op=2:=by unfold za6;subst h2;rfl
  rw[hr];(refine Gw3 @dT @dF @uo ?_;intros);exact⟨_,.int _ _ _,rfl⟩
 by_cases h3:op=3
 ·
  have hr:za6 op=0:=by unfold za6;subst h3;rfl
  rw[hr];(refine Gw3 @dT @dF @uo ?_;intros);exact⟨_,.int _ _ _,rfl⟩
 by_cases h5:op=5
 ·
  have hr:za6 op=0:=by unfold za6;subst h5;rfl
  rw[hr];(refine Gw3 @dT @dF @uo ?_;intros);exact⟨_,.int _ _ _,rfl⟩
 by_cases h6:op=6
 ·
  have hr:za6 op=0:=by unfold za6;subst h6;rfl
  rw[hr];(refine Gw3 @dT @dF @uo ?_;intros);exact⟨_,.int _ _ _,rfl⟩
 by_cases h9:op=9
 ·
  have hr:za6 op=0:=by unfold za6;subst h9;rfl
  rw[hr];(refine Gw3 @dT @dF @uo ?_;intros);exact⟨_,.int _ _ _,rfl⟩
 by_cases h10:op=10
 ·
  have hr:za6 op=0:=by unfold za6;subst h10;rfl
  rw[hr];(refine Gw3 @dT @dF @uo ?_;intros);exact⟨_,.int _ _ _,rfl⟩
 have hr:za6 op = -1:=by unfold za6;rw[if_neg (by omega),if_neg (by omega),if_neg (by omega)]
 rw[hr];(refine Gw3 @dT @dF @uo ?_;intros);exact⟨_,.int _ _ _,rfl⟩
theorem Qa{p q:Prop}(k:q)(h:Im q p:=by(repeat first|simp(disch:=try exact dis1) only[evD,Nat.reduceBEq,Nat.reduceAdd,Nat.reduceLeDiff,dT,dF,fldP,za,zh] | ((with_reducible apply Im.i);intro _) | ((with_reducible apply Im.a);omega));exact Im.r):p:=h k
theorem zv1(op var width next els tgt:Int)(e:List Ex)(cs:List Int)(h:op=1):zz Tryz.prog zbq [.agg [.int .i64 op,.int .i64 var,.int .i64 width,.int .i64 next,.int .i64 els,.int .u32 tgt,encL 5 encX e,za cs]] (·=.bool (zy op var width next els tgt cs.length)):=by
 refine fn_x zce rfl ?_
 unfold zbH;conv in dcC _ _=>cbv
 have hB:=hBig;(refine Qa ?_;intros);refine zi (zf (zjL var) rfl) ?_;unfold zzt
 by_cases hv:0≤var∧var < 65536<;>(refine Qa ?_;intros)
 case neg =>exact⟨_,.bool _ _,congrArg AV.bool (by unfold zy;exact lb)⟩
 by_cases q0:width=0<;>(refine Qa ?_;intros)
 case neg =>exact⟨_,.bool _ _,congrArg AV.bool (by unfold zy;exact lb)⟩
 by_cases q1:tgt=0<;>(refine Qa ?_;intros)
 case neg =>exact⟨_,.bool _ _,congrArg AV.bool (by unfold zy;exact lb)⟩
 by_cases q2:next=0<;>(refine Qa ?_;intros)
 case neg =>exact⟨_,.bool _ _,congrArg AV.bool (by unfold zy;exact lb)⟩
 by_cases q3:els=0<;>(refine Qa ?_;intros)
 case neg =>exact⟨_,.bool _ _,congrArg AV.bool (by unfold zy;exact lb)⟩
 exact⟨_,.bool _ _,congrArg AV.bool (by unfold zy;exact lb)⟩
theorem zvl(op var width next els tgt:Int)(e:List Ex)(cs:List Int)(h:op=2):zz Tryz.prog zbq [.agg [.int .i64 op,.int .i64 var,.int .i64 width,.int .i64 next,.int .i64 els,.int .u32 tgt,encL 5 encX e,za cs]] (·=.bool (zy op var width next els tgt cs.length)):=by
 refine fn_x zce rfl ?_
 unfold zbH;conv in dcC _ _=>cbv
 have hB:=hBig;(refine Qa ?_;intros);refine zi (zf (zpk width) rfl) ?_;unfold zs9
 by_cases hv:width=1∨width=2∨width=4<;>(refine Qa ?_;intros)
 case neg =>exact⟨_,.bool _ _,congrArg AV.bool (by unfold zy;exact lb)⟩
 by_cases q0:var=0<;>(refine Qa ?_;intros)
 case neg =>exact⟨_,.bool _ _,congrArg AV.bool (by unfold zy;exact lb)⟩
 by_cases q1:tgt=0<;>(refine Qa ?_;intros)
 case neg =>exact⟨_,.bool _ _,congrArg AV.bool (by unfold zy;exact lb)⟩
 by_cases q2:next=0<;>(refine Qa ?_;intros)
 case neg =>exact⟨_,.bool _ _,congrArg AV.bool (by unfold zy;exact lb)⟩
 by_cases q3:els=0<;>(refine Qa ?_;intros)
 case neg =>exact⟨_,.bool _ _,congrArg AV.bool (by unfold zy;exact lb)⟩
 exact⟨_,.bool _ _,congrArg AV.bool (by unfold zy;exact lb)⟩
theorem zwz(op var width next els tgt:Int)(e:List Ex)(cs:List Int)(h:op=3):zz Tryz.prog zbq [.agg [.int .i64 op,.int .i64 var,.int .i64 width,.int .i64 next,.int .i64 els,.int .u32 tgt,encL 5 encX e,za cs]] (·=.bool (zy op var width next els tgt cs.length)):=by
 refine fn_x zce rfl ?_
 unfold zbH;conv in dcC _ _=>cbv
 have hB:=hBig;(refine Qa ?_;intros);refine zi (zf (zjL var) rfl) ?_;unfold zzt
 by_cases hv:0≤var∧var < 65536<;>(refine Qa ?_;intros)
 case neg =>exact⟨_,.bool _ _,congrArg AV.bool (by unfold zy;exact lb)⟩
 by_cases q0:width=0<;>(refine Qa ?_;intros)
 case neg =>exact⟨_,.bool _ _,congrArg AV.bool (by unfold zy;exact lb)⟩
 by_cases q1:tgt=0<;>(refine Qa ?_;intros)
 case neg =>exact⟨_,.bool _ _,congrArg AV.bool (by unfold zy;exact lb)⟩
 by_cases q2:next=0<;>(refine Qa ?_;intros)
 case neg =>exact⟨_,.bool _ _,congrArg AV.bool (by unfold zy;exact lb)⟩
 by_cases q3:els=0<;>(refine Qa ?_;intros)
 case neg =>exact⟨_,.bool _ _,congrArg AV.bool (by unfold zy;exact lb)⟩
 exact⟨_,.bool _ _,congrArg AV.bool (by unfold zy;exact lb)⟩
theorem zvC(op var width next els tgt:Int)(e:List Ex)(cs:List Int)(h:op=4):zz Tryz.prog zbq [.agg [.int .i64 op,.int .i64 var,.int .i64 width,.int .i64 next,.int .i64 els,.int .u32 tgt,encL 5 encX e,za cs]] (·=.bool (zy op var width next els tgt cs.length)):=by
 refine fn_x zce rfl ?_
 unfold zbH;conv in dcC _ _=>cbv
 have hB:=hBig;(refine Qa ?_;intros)
 by_cases q0:var=0<;>(refine Qa ?_;intros)
 case neg =>exact⟨_,.bool _ _,congrArg AV.bool (by unfold zy;exact lb)⟩
 by_cases q1:width=0<;>(refine Qa ?_;intros)
 case neg =>exact⟨_,.bool _ _,congrArg AV.bool (by unfold zy;exact lb)⟩
 by_cases q2:tgt=0<;>(refine Qa ?_;intros)
 case neg =>exact⟨_,.bool _ _,congrArg AV.bool (by unfold zy;exact lb)⟩
 by_cases q3:next=0<;>(refine Qa ?_;intros)
 case neg =>exact⟨_,.bool _ _,congrArg AV.bool (by unfold zy;exact lb)⟩
 by_cases q4:els=0<;>(refine Qa ?_;intros)
 case neg =>exact⟨_,.bool _ _,congrArg AV.bool (by unfold zy;exact lb)⟩
 exact⟨_,.bool _ _,congrArg AV.bool (by unfold zy;exact lb)⟩
theorem zvg(op var width next els tgt:Int)(e:List Ex)(cs:List Int)(h:op=5):zz Tryz.prog zbq [.agg [.int .i64 op,.int .i64 var,.int .i64 width,.int .i64 next,.int .i64 els,.int .u32 tgt,encL 5 encX e,za cs]] (·=.bool (zy op var width next els tgt cs.length)):=by
 refine fn_x zce rfl ?_
 unfold zbH;conv in dcC _ _=>cbv
 have hB:=hBig;(refine Qa ?_;intros)
 by_cases q0:var=0<;>(refine Qa ?_;intros)
 case neg =>exact⟨_,.bool _ _,congrArg AV.bool (by unfold zy;exact lb)⟩
 by_cases q1:width=0<;>(refine Qa ?_;intros)
 case neg =>exact⟨_,.bool _ _,congrArg AV.bool (by unfold zy;exact lb)⟩
 by_cases q2:next=0<;>(refine Qa ?_;intros)
 case neg =>exact⟨_,.bool _ _,congrArg AV.bool (by unfold zy;exact lb)⟩
 by_cases q3:els=0<;>(refine Qa ?_;intros)
 case neg =>exact⟨_,.bool _ _,congrArg AV.bool (by unfold zy;exact lb)⟩
 exact⟨_,.bool _ _,congrArg AV.bool (by unfold zy;exact lb)⟩
theorem zwH(op var width next els tgt:Int)(e:List Ex)(cs:List Int)(h:op=6):zz Tryz.prog zbq [.agg [.int .i64 op,.int .i64 var,.int .i64 width,.int .i64 next,.int .i64 els,.int .u32 tgt,encL 5 encX e,za cs]] (·=.bool (zy op var width next els tgt cs.length)):=by
 refine fn_x zce rfl ?_
 unfold zbH;conv in dcC _ _=>cbv
 have hB:=hBig;(refine Qa ?_;intros)
 by_cases q0:var=0<;>(refine Qa ?_;intros)
 case neg =>exact⟨_,.bool _ _,congrArg AV.bool (by unfold zy;exact lb)⟩
 by_cases q1:width=0<;>(refine Qa ?_;intros)
 case neg =>exact⟨_,.bool _ _,congrArg AV.bool (by unfold zy;exact lb)⟩
 by_cases q2:tgt=0<;>(refine Qa ?_;intros)
 case neg =>exact⟨_,.bool _ _,congrArg AV.bool (by unfold zy;exact lb)⟩
 by_cases q3:els=0<;>(refine Qa ?_;intros)
 case neg =>exact⟨_,.bool _ _,congrArg AV.bool (by unfold zy;exact lb)⟩
 exact⟨_,.bool _ _,congrArg AV.bool (by unfold zy;exact lb)⟩
theorem zwo(op var width next els tgt:Int)(e:List Ex)(cs:List Int)(h:op=7):zz Tryz.prog zbq [.agg [.int .i64 op,.int .i64 var,.int .i64 width,.int .i64 next,.int .i64 els,.int .u32 tgt,encL 5 encX e,za cs]] (·=.bool (zy op var width next els tgt cs.length)):=by
 refine fn_x zce rfl ?_
 unfold zbH;conv in dcC _ _=>cbv
 have hB:=hBig
 by_cases q0:var=0
 case neg =>
  ((refine Qa ?_;intros);(repeat' with_reducible apply We)<;>(refine Qa ?_;intros);all_goals (exact⟨_,.bool _ _,congrArg AV.bool (by unfold zy;exact lb)⟩))
 by_cases q1:width=0
 case neg =>
  ((refine Qa ?_;intros);(repeat' with_reducible apply We)<;>(refine Qa ?_;intros);all_goals (exact⟨_,.bool _ _,congrArg AV.bool (by unfold zy;exact lb)⟩))
 by_cases q2:tgt=0
 case neg =>
  ((refine Qa ?_;intros);(repeat' with_reducible apply We)<;>(refine Qa ?_;intros);all_goals (exact⟨_,.bool _ _,congrArg AV.bool (by unfold zy;exact lb)⟩))
 by_cases q3:cs.length=0
 case neg =>
  ((refine Qa ?_;intros);(repeat' with_reducible apply We)<;>(refine Qa ?_;intros);all_goals (exact⟨_,.bool _ _,congrArg AV.bool (by unfold zy;exact lb)⟩))
 ((refine Qa ?_;intros);(repeat' with_reducible apply We)<;>(refine Qa ?_;intros);all_goals (exact⟨_,.bool _ _,congrArg AV.bool (by unfold zy;exact lb)⟩))
theorem zvW(op var width next els tgt:Int)(e:List Ex)(cs:List Int)(h:op=8):zz Tryz.prog zbq [.agg [.int .i64 op,.int .i64 var,.int .i64 width,.int .i64 next,.int .i64 els,.int .u32 tgt,encL 5 encX e,za cs]] (·=.bool (zy op var width next els tgt cs.length)):=by
 refine fn_x zce rfl ?_
 unfold zbH;conv in dcC _ _=>cbv
 have hB:=hBig;(refine Qa ?_;intros)
 by_cases g1:1≤cs.length<;>(refine Qa ?_;intros)
 case neg =>exact⟨_,.bool _ _,congrArg AV.bool (by unfold zy;exact lb)⟩
 by_cases g2:cs.length≤64<;>(refine Qa ?_;intros)
 case neg =>exact⟨_,.bool _ _,congrArg AV.bool (by unfold zy;exact lb)⟩
 by_cases q0:var=0<;>(refine Qa ?_;intros)
 case neg =>exact⟨_,.bool _ _,congrArg AV.bool (by unfold zy;exact lb)⟩
 by_cases q1:width=0<;>(refine Qa ?_;intros)
 case neg =>exact⟨_,.bool _ _,congrArg AV.bool (by unfold zy;exact lb)⟩
 by_cases q2:tgt=0<;>(refine Qa ?_;intros)
 case neg =>exact⟨_,.bool _ _,congrArg AV.bool (by unfold zy;exact lb)⟩
 by_cases q3:next=0<;>(refine Qa ?_;intros)
 case neg =>exact⟨_,.bool _ _,congrArg AV.bool (by unfold zy;exact lb)⟩
 by_cases q4:els=0<;>(refine Qa ?_;intros)
 case neg =>exact⟨_,.bool _ _,congrArg AV.bool (by unfold zy;exact lb)⟩
 exact⟨_,.bool _ _,congrArg AV.bool (by unfold zy;exact lb)⟩
theorem zwl(op var width next els tgt:Int)(e:List Ex)(cs:List Int)(h:op=9):zz Tryz.prog zbq [.agg [.int .i64 op,.int .i64 var,.int .i64 width,.int .i64 next,.int .i64 els,.int .u32 tgt,encL 5 encX e,za cs]] (·=.bool (zy op var width next els tgt cs.length)):=by
 refine fn_x zce rfl ?_
 unfold zbH;conv in dcC _ _=>cbv
 have hB:=hBig;(refine Qa ?_;intros)
 by_cases q0:var=0<;>(refine Qa ?_;intros)
 case neg =>exact⟨_,.bool _ _,congrArg AV.bool (by unfold zy;exact lb)⟩
 by_cases q1:width=0<;>(refine Qa ?_;intros)
 case neg =>exact⟨_,.bool _ _,congrArg AV.bool (by unfold zy;exact lb)⟩
 by_cases q2:tgt=0<;>(refine Qa ?_;intros)
 case neg =>exact⟨_,.bool _ _,congrArg AV.bool (by unfold zy;exact lb)⟩
 by_cases q3:next=0<;>(refine Qa ?_;intros)
 case neg =>exact⟨_,.bool _ _,congrArg AV.bool (by unfold zy;exact lb)⟩
 by_cases q4:els=0<;>(refine Qa ?_;intros)
 case neg =>exact⟨_,.bool _ _,congrArg AV.bool (by unfold zy;exact lb)⟩
 exact⟨_,.bool _ _,congrArg AV.bool (by unfold zy;exact lb)⟩
theorem zu9(op var width next els tgt:Int)(e:List Ex)(cs:List Int)(h:op=10):zz Tryz.prog zbq [.agg [.int .i64 op,.int .i64 var,.int .i64 width,.int .i64 next,.int .i64 els,.int .u32 tgt,encL 5 encX e,za cs]] (·=.bool (zy op var width next els tgt cs.length)):=by
 refine fn_x zce rfl ?_
 unfold zbH;conv in dcC _ _=>cbv
 have hB:=hBig;(refine Qa ?_;intros)
 by_cases q0:var=0<;>(refine Qa ?_;intros)
 case neg =>exact⟨_,.bool _ _,congrArg AV.bool (by unfold zy;exact lb)⟩
 by_cases q1:width=0<;>(refine Qa ?_;intros)
 case neg =>exact⟨_,.bool _ _,congrArg AV.bool (by unfold zy;exact lb)⟩
 by_cases q2:tgt=0<;>(refine Qa ?_;intros)
 case neg =>exact⟨_,.bool _ _,congrArg AV.bool (by unfold zy;exact lb)⟩
 by_cases q3:next=0<;>(refine Qa ?_;intros)
 case neg =>exact⟨_,.bool _ _,congrArg AV.bool (by unfold zy;exact lb)⟩
 by_cases q4:els=0<;>(refine Qa ?_;intros)
 case neg =>exact⟨_,.bool _ _,congrArg AV.bool (by unfold zy;exact lb)⟩
 exact⟨_,.bool _ _,congrArg AV.bool (by unfold zy;exact lb)⟩
theorem zut(op var width next els tgt:Int)(e:List Ex)(cs:List Int)(h1:1≤op)(h2:op≤10):zz Tryz.prog zbq [.agg [.int .i64 op,.int .i64 var,.int .i64 width,.int .i64 next,.int .i64 els,.int .u32 tgt,encL 5 encX e,za cs]] (·=.bool (zy op var width next els tgt cs.length)):=by
 by_cases h10:op=1
 · exact zv1 op var width next els tgt e cs h10
 by_cases h20:op=2
 · exact zvl op var width next els tgt e cs h20
 by_cases h30:op=3
 · exact zwz op var width next els tgt e cs h30
 by_cases h40:op=4
 · exact zvC op var width next els tgt e cs h40
 by_cases h50:op=5
 · exact zvg op var width next els tgt e cs h50
 by_cases h60:op=6
 · exact zwH op var width next els tgt e cs h60
 by_cases h70:op=7
 · exact zwo op var width next els tgt e cs h70
 by_cases h80:op=8
 · exact zvW op var width next els tgt e cs h80
 by_cases h90:op=9
 · exact zwl op var width next els tgt e cs h90
 by_cases h100:op=10
 · exact zu9 op var width next els tgt e cs h100
 omega
def zlj:List Ex→Int
 | []=>0
 | x::l=>if zmO x≠0 then zmO x else zlj l
theorem zv8{l:List Ex}{i:Nat}(h:i < l.length):zlj (l.drop i)=if zmO l[i]≠0 then zmO l[i] else zlj (l.drop (i+1)):=by rw[List.drop_eq_getElem_cons h,zlj]
def zxw(op var width next els tgt:Int)(e:List Ex)(cs:List Int):Int :=
 if (op < 1∨10 < op)∨za6 op≠e.length then 2 else if zlj e≠0 then zlj e else if zy op var width next els tgt cs.length=true then 0 else 2
theorem zvR{op:Int}:za6 op < 0↔(op < 1∨10 < op):=by
 unfold za6;constructor
 ·
  intro h
  repeat' split at h
  all_goals omega
 · intro h;rw[if_neg (by omega),if_neg (by omega),if_neg (by omega)];omega
theorem Qd{p q:Prop}(k:q)(h:Im q p:=by(repeat first|simp(disch:=try exact dis1) only[evD,Nat.reduceBEq,Nat.reduceAdd,Nat.reduceLeDiff,dF] | ((with_reducible apply Im.i);intro _) | ((with_reducible apply Im.a);omega));exact Im.r):p:=h k
theorem Qh{p:Prop}(h:p:=by(try simp only[evWB,Nat.reduceBEq,Nat.reduceAdd,Nat.reduceSub,Nat.reduceLeDiff,Nat.reduceLT,implies_true])<;>exact fin2):p:=h
theorem ua:type_of% @za.eq_1:=@za.eq_1
theorem zqg(op var width next els tgt:Int)(e:List Ex)(cs:List Int):zz Tryz.prog zgZ [.agg [.int .i64 op,.int .i64 var,.int .i64 width,.int .i64 next,.int .i64 els,.int .u32 tgt,encL 5 encX e,za cs]] (·=.int .i64 (zxw op var width next els tgt e cs)):=by
 refine fn_x zp3 rfl ?_
 unfold zl5 zxw;conv in dcC _ _=>cbv
 have hB:=hBig;(refine Gw5 @dT @dF @ub @ua @za9.eq_1 ?_;intros);refine zi (zf (zoU op) rfl) ?_;have hneg:=zvR (op:=op);generalize za6 op=n at hneg ⊢
 by_cases h1:n < 0
 · rw[if_pos (.inl (hneg.1 h1))];(refine Gw5 @dT @dF @ub @ua @za9.eq_1 ?_;intros);exact⟨_,.int _ _ _,rfl⟩
 have hop:¬(op < 1∨10 < op):=fun h=>h1 (hneg.2 h)
 (refine Gw5 @dT @dF @ub @ua @za9.eq_1 ?_;intros)
 by_cases h3:n=e.length
 case neg =>rw[if_pos (.inr h3)];(refine Gw5 @dT @dF @ub @ua @za9.eq_1 ?_;intros);exact⟨_,.int _ _ _,rfl⟩
 rw[if_neg (by omega)];(refine Gw5 @dT @dF @ub @ua @za9.eq_1 ?_;intros);refine zd (fun i:Nat=>([(1,encP 8 [.int .i64 op,.int .i64 var,.int .i64 width,.int .i64 next,.int .i64 els,.int .u32 tgt,encL 5 encX e,za cs]),(20,encL 5 encX e),(21,.int .i64 e.length),(22,.int .i64 i)],[])) 0 (fun i=>i≤e.length∧zlj (e.drop i)=zlj e) (fun i=>e.length - i) 0 ⟨Nat.zero_le _,rfl⟩ (Ent.keep rfl fin5) ?_;rintro i ⟨hi,hgo⟩ wf
 unfold zjj;conv in dcC _ _=>cbv
 by_cases hl:i < e.length
 ·
  rw[zv8 hl] at hgo
  (repeat first|simp(disch:=try exact dis1) only[evD,Nat.reduceBEq,Nat.reduceAdd,Nat.reduceLeDiff,fldP,dT,zn hl,zdw,zcs]|with_reducible first|intro _|refine aJ ?_)
  refine zi (zf (zqX e[i]) (flX rfl)) ?_
  by_cases hx:zmO e[i]=0
  · rw[if_neg (by omega)] at hgo;(refine Qd ?_;intros);exact⟨i+1,⟨by omega,hgo⟩,by omega,(Ent.tab [] [] rfl Qh Qh)⟩
  · rw[if_pos hx] at hgo;rw[←hgo,if_pos hx];(refine Gw2 @dT @za9.eq_1 ?_;intros);exact⟨_,.int _ _ _,rfl⟩
 rw[List.drop_of_length_le (by omega),zlj] at hgo;rw[←hgo,if_neg (by omega)];(refine Gw2 @ub @dF ?_;intros)
 unfold zjg;conv in dcC _ _=>cbv
 (repeat first|simp(disch:=try exact dis1) only[evD,Nat.reduceBEq,Nat.reduceAdd,Nat.reduceLeDiff,fldP,zP,tab,List.getD_cons_zero,List.getD_cons_succ,za]|with_reducible first|intro _|refine aJ ?_)
 refine zi (zf (zut op var width next els tgt e cs (by omega) (by omega)) rfl) ?_
 cases zy op var width next els tgt cs.length with
 |
  false =>
  (refine Gw5 @dT @dF @ub @ua @za9.eq_1 ?_;intros);exact⟨_,.int _ _ _,rfl⟩
 |
  true =>
  (refine Gw5 @dT @dF @ub @ua @za9.eq_1 ?_;intros);exact⟨_,.int _ _ _,rfl⟩
structure St where
 op:Int
 var:Int
 width:Int
 next:Int
 els:Int
 tgt:Int
 e:List Ex
 cases:List Int
def St.cells(s:St):List AV:=[.int .i64 s.op,.int .i64 s.var,.int .i64 s.width,.int .i64 s.next,.int .i64 s.els,.int .u32 s.tgt,encL 5 encX s.e,za s.cases]
structure Bl where
 addr:Int
 stmts:List St
def Bl.cells(b:Bl):List AV:=[.int .u32 b.addr,encL 8 St.cells b.stmts]
structure G where
 addr:Int
 blocks:List Bl
def G.cells(g:G):List AV:=[.int .u32 g.addr,encL 2 Bl.cells g.blocks]
theorem St.len(s:St):s.cells.length=8:=rfl
theorem St.flat(s:St):zH s.cells=true:=rfl
theorem St.eight(s:St):[s.cells.getD 0 .undef,s.cells.getD 1 .undef,s.cells.getD 2 .undef,s.cells.getD 3 .undef,s.cells.getD 4 .undef,s.cells.getD 5 .undef,s.cells.getD 6 .undef,s.cells.getD 7 .undef]=s.cells:=rfl
def zoz(s:St):Bool:=decide (6≤s.op∧s.op≤10)
def zpV(s:St):List Int:=if s.op=6 then [s.next] else if s.op=7 then [s.next,s.els] else if s.op=8 then s.cases else []
def St.check(s:St):Int:=zxw s.op s.var s.width s.next s.els s.tgt s.e s.cases
theorem zqm(s:St):zz Tryz.prog zgZ [.agg s.cells] (·=.int .i64 s.check):=zqg _ _ _ _ _ _ _ _
theorem uc:type_of% @St.cells.eq_1:=@St.cells.eq_1
theorem zld(s:St):zz Tryz.prog zev [.agg s.cells] (·=.bool (zoz s)):=by
 refine fn_x zpC rfl ?_
 unfold zlb;conv in dcC _ _=>cbv
 have hB:=hBig;obtain⟨op,var,width,next,els,tgt,e,cs⟩:=s;unfold zoz
 by_cases h1:6≤op
 · (refine Gw5 @dT @ub @ua @uc @zhl.eq_1 ?_;intros);exact⟨_,.bool _ _,congrArg AV.bool (decide_eq_decide.2 (by omega))⟩
 · (refine Gw5 @dF @ub @ua @uc @zhl.eq_1 ?_;intros);exact⟨_,.bool _ _,rfl⟩
end Go.Ab
namespace Go.Ab
open Go.RowKit Go.Proofs Go.Proofs.YtihlaappclhhaaaGreat
end Go.Ab
