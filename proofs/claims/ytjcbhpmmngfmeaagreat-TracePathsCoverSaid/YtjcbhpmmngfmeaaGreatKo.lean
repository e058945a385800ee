/-
  Part 15 of the proof: how the calls of this program run, over values instead of memory, and what each function computes.
-/
import Derived.Test.YtjcbhpmmngfmeaaGreatKn
set_option maxRecDepth 100000
set_option linter.unusedVariables false
set_option linter.unusedSimpArgs false
set_option linter.unnecessarySimpa false
set_option linter.unusedSectionVars false
open Int renaming toNat_natCast→Wa
namespace Go.Ab
open Go.RowKit Go.Proofs
theorem Qak {p q:Prop}(k:q)(h:Im q p:=by(repeat first|simp(disch:=try exact dis1) only[evD,Nat.reduceBEq,Nat.reduceAdd,Nat.reduceLeDiff,fldP,zk6] | ((with_reducible apply Im.i);intro _) | ((with_reducible apply Im.a);omega));exact Im.r):p:=h k
theorem QA {p q:Prop}(k:q)(h:Im q p:=by(repeat first|simp(disch:=try exact dis1) only[evD,Nat.reduceBEq,Nat.reduceAdd,Nat.reduceLeDiff,zaR] | ((with_reducible apply Im.i);intro _) | ((with_reducible apply Im.a);omega));exact Im.r):p:=h k
theorem Qal {p q:Prop}(k:q)(h:Im q p:=by(repeat first|simp(disch:=try exact dis1) only[evD,Nat.reduceBEq,Nat.reduceAdd,Nat.reduceLeDiff,dF,fldP,zk6] | ((with_reducible apply Im.i);intro _) | ((with_reducible apply Im.a);omega));exact Im.r):p:=h k
theorem Qam {p q:Prop}(k:q)(h:Im q p:=by(repeat first|simp(disch:=try exact dis1) only[evD,Nat.reduceBEq,Nat.reduceAdd,Nat.reduceLeDiff,dF,zdU] | ((with_reducible apply Im.i);intro _) | ((with_reducible apply Im.a);omega));exact Im.r):p:=h k
theorem Qau {p:Prop}(h:p:=by(try simp only[evWB,Nat.reduceBEq,Nat.reduceAdd,Nat.reduceSub,Nat.reduceLeDiff,Nat.reduceLT,implies_true,zdU])<;>exact fin2):p:=h
theorem L37_TracePathsCover_ok (g:G) (cs:List Int) (most:Int) (hw:∀c∈cs,0≤c∧c < 4294967296) (hmo:InR .i64 most):zk Tryz.prog ze8 [.agg g.cells,encL 1 cW cs,.int .i64 most] (·=.bool true):=by
 refine fn_x ziX rfl ?_;unfold zeu;have hB:=hBig;have hsm:=zr8 g cs most;have hex:=zk2;have hmid:=zt4 (g:=g) (cs:=cs) (most:=most)
 have hp:=fun hm hc=>zuw g most hm hc
 have ha:=fun hm hc=>zuV g cs most hm hc
 have hck:=fun hm=>zlO g hm
 have hG:=fun hm=>zyg (g:=g) hm
 have hcov:=fun hg h0 hm=>zud (g:=g) hg h0 cs (most:=most) hm
 have retT:∀H:AH,∃a,Frz H (.bool true) a∧a=.bool true:=fun H=>⟨_,.bool _ _,rfl⟩
 generalize znU g cs most=sm at hsm hmid;generalize ziC g most=P at hp hcov;generalize zgV g cs most=li at ha hcov;generalize zbi g=c at ha hck hG hcov;obtain⟨ad,l⟩:=g;simp only[G.cells] at hsm ha hp hck hcov ⊢
 (refine Qak ?_;intros)
 refine zc (zg hsm rfl) ?_
 cases sm with
 |
  false =>
  (refine Qa ?_;intros)
  refine zc (zg hex rfl) ?_
  (refine QA ?_;intros)
  exact retT _
 | true =>
 obtain⟨hm,hbl,hcl,-⟩:=hmid rfl
 by_cases h8:8 < most
 ·
  (refine QF ?_;intros)
  refine zc (zg hex rfl) ?_
  (refine QA ?_;intros)
  exact retT _
 (refine Qal ?_;intros)
 refine zc (zg (hck (zjJ hm)) rfl) ?_
 by_cases h0:c=0
 case neg =>
  (refine QF ?_;intros)
  refine zc (zg hex rfl) ?_
  (refine QA ?_;intros)
  exact retT _
 have h1:=ha hm (by omega) (.inl (by omega)) hw;have h2:=hp hm (.inl (by omega));rw[if_neg (fun h=>h h0),if_neg (by omega)] at h1;obtain⟨hasc,hmem,htwo⟩:=hcov (hG hm h0) h0 (by omega)
 (refine Qal ?_;intros)
 refine zc (zg h1 rfl) ?_
 (refine Qak ?_;intros)
 refine zc (zg h2 rfl) ?_
 have d00:decide ((0:Int)≠0)=false:=by decide
 have hor:decide ((P.length:Int)=0)=false∨decide ((P.length:Int)=0)=true∧decide ((l.length:Int)≤2)=false:=by
  by_cases hP:P=[]
  · refine .inr ⟨by rw[hP];rfl,?_⟩;rw[decide_eq_false_iff_not];intro h3;exact htwo (by show l.length≤2;omega) hP
  · refine .inl ?_;rw[decide_eq_false_iff_not];intro h3;exact hP (List.eq_nil_of_length_eq_zero (by omega))
 have hmem2:decide ((P.length:Int)=0)=true∨li∈P:=by
  rcases hmem with h|h
  · exact .inl (by rw[h];rfl)
  · exact .inr h
 generalize hd0:decide ((P.length:Int)=0)=d0 at hor hmem2
 obtain⟨f,hf0,hfs,hfe⟩:∃f:Nat→Bool,f 0=d0∧(∀i (h:i < P.length),f (i+1)=(f i||decide (P[i]=li)))∧f P.length=true:=by
  refine⟨fun i=>d0||(P.take i).any fun y=>decide (y=li),by simp,fun i h=>?_,?_⟩
  · show (d0||(P.take (i+1)).any fun y=>decide (y=li))=_;rw[List.take_succ_eq_append_getElem h,List.any_append,←Bool.or_assoc];simp
  ·
   simp only[List.take_length]
   rcases hmem2 with h|h
   · rw[h,Bool.true_or]
   · rw[Bool.or_eq_true,List.any_eq_true];exact .inr ⟨li,h,decide_eq_true rfl⟩
 rcases hor with hor|hor
 case' inl =>
  subst hor
  (repeat first|simp(disch:=try exact dis1) only[evD,Nat.reduceBEq,Nat.reduceAdd,Nat.reduceLeDiff,d00,hd0,fldP,zdU]|with_reducible first|intro _|refine aJ ?_)
 case' inr =>
  obtain⟨hor1,hor2⟩:=hor;subst hor1
  (repeat first|simp(disch:=try exact dis1) only[evD,Nat.reduceBEq,Nat.reduceAdd,Nat.reduceLeDiff,d00,hd0,hor2,fldP,zdU]|with_reducible first|intro _|refine aJ ?_)
 all_goals
  refine zm (fun i:Nat=>([(7,za li),(9,zdU P),(10,.bool (f i)),(11,.int .i64 i)],[])) 0 (fun i=>i≤P.length) (fun i=>P.length - i) 0 (Nat.zero_le _) (Ent.tab [] [] rfl (by(try simp only[evWB,Nat.reduceBEq,Nat.reduceAdd,Nat.reduceSub,Nat.reduceLeDiff,Nat.reduceLT,implies_true,zdU,hf0])<;>exact fin2) (by(try simp only[evWB,Nat.reduceBEq,Nat.reduceAdd,Nat.reduceSub,Nat.reduceLeDiff,Nat.reduceLT,implies_true,zdU,hf0])<;>exact fin2)) ?_;intro i hi wf;clear wf;unfold zdi
  by_cases hil:i < P.length
  case neg =>
   obtain rfl:i=P.length:=by omega
   (refine Qam ?_;intros)
   unfold zdf
   (repeat first|simp(disch:=try exact dis1) only[evD,Nat.reduceBEq,Nat.reduceAdd,Nat.reduceLeDiff,hfe]|with_reducible first|intro _|refine aJ ?_)
   refine zc (zg hex rfl) ?_
   (refine QA ?_;intros)
   exact retT _
  have gp:(P.map cP).getD i []=[za P[i]]:=zo (f:=cP) (d:=[]) hil;have hsi:=zgr P[i] li;have hfi:=hfs i hil;cases hf:f i
  case' true =>
   rw[hf,Bool.true_or] at hfi
   (repeat first|simp(disch:=try exact dis1) only[evD,Nat.reduceBEq,Nat.reduceAdd,Nat.reduceLeDiff,dT,zdU,gp,Wa]|with_reducible first|intro _|refine aJ ?_)
  case' false =>
   rw[hf,Bool.false_or] at hfi;rw[←hfi] at hsi
   (repeat first|simp(disch:=try exact dis1) only[evD,Nat.reduceBEq,Nat.reduceAdd,Nat.reduceLeDiff,dT,zdU,gp,Wa]|with_reducible first|intro _|refine aJ ?_)
   refine zc (zg hsi rfl) ?_
   (refine Qa ?_;intros)
  all_goals
   refine zm (fun k:Nat=>([(7,za li),(9,zdU P),(10,.bool (f (i+1))),(11,.int .i64 i),(12,.int .i64 k)],[])) 0 (fun k=>k≤i) (fun k=>i - k) 0 (Nat.zero_le _) (Ent.tab [] [] rfl (by(try simp only[evWB,Nat.reduceBEq,Nat.reduceAdd,Nat.reduceSub,Nat.reduceLeDiff,Nat.reduceLT,implies_true,zdU,hfi])<;>exact fin2) (by(try simp only[evWB,Nat.reduceBEq,Nat.reduceAdd,Nat.reduceSub,Nat.reduceLeDiff,Nat.reduceLT,implies_true,zdU,hfi])<;>exact fin2)) ?_;intro k hk wf;clear wf;unfold zdd
   by_cases hki:k < i
   case neg =>
    (refine Qam ?_;intros)
    unfold zdj
    (refine Qa ?_;intros)
    exact⟨i+1,hil,by omega,(Ent.tab [] [] rfl Qau Qau)⟩
   have gk:(P.map cP).getD k []=[za P[k]]:=zo (f:=cP) (d:=[]) (show k < P.length by omega);have hsk:=zgr P[i] P[k];rw[decide_eq_false (asc_ne hasc hil hki)] at hsk
   (repeat first|simp(disch:=try exact dis1) only[evD,Nat.reduceBEq,Nat.reduceAdd,Nat.reduceLeDiff,dT,zdU,gp,gk,Wa]|with_reducible first|intro _|refine aJ ?_)
   refine zbS (zg hsk rfl) ?_
   (refine Qa ?_;intros)
   exact⟨k+1,hki,by omega,(Ent.tab [] [] rfl Qau Qau)⟩
end Go.Ab
