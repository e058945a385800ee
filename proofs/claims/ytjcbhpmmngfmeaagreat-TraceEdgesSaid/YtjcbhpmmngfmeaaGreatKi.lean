/-
  Part 9 of the proof: how the calls of this program run, over values instead of memory, and what each function computes.
-/
import Derived.KernelRfl
import Derived.Test.YtjcbhpmmngfmeaaGreatKh
set_option maxRecDepth 100000
set_option linter.unusedVariables false
set_option linter.unusedSimpArgs false
set_option linter.unnecessarySimpa false
set_option linter.unusedSectionVars false
open Nat renaming zero_le→Wa
open List renaming getD_eq_getElem?_getD→Wc,drop_of_length_le→Wd,length_nil→We,drop_eq_getElem_cons→Wf,getElem_mem→Wh,getElem?_eq_getElem→Wi,all_cons→Wj,eq_nil_of_length_eq_zero→Wk,findIdx?_eq_some_iff_getElem→Wl,findIdx?_eq_none_iff→Wm,length_cons→Wn,mem_iff_getElem→Wo,length_singleton→Wq,cons_append→Wt,any_eq_false→Wv
open And renaming intro→Wg
open Bool renaming false_and→Wp,and_eq_true→Wu
open Array renaming getElem?_eq_none→Wr,getElem?_toList→Ws
namespace Go.Ab
open Go.RowKit Go.Proofs
theorem Qb {p q:Prop}(k:q)(h:Im q p:=by(repeat first|simp(disch:=try exact dis1) only[evD,Nat.reduceBEq,Nat.reduceAdd,Nat.reduceLeDiff,dT,dF,fldP,za,zd] | ((with_reducible apply Im.i);intro _) | ((with_reducible apply Im.a);omega));exact Im.r):p:=h k
theorem ztc (op var width next els tgt:Int) (e:List Ex) (cs:List Int) (h:op=1):zl Tryz.prog zaU [.agg [.int .i64 op,.int .i64 var,.int .i64 width,.int .i64 next,.int .i64 els,.int .u32 tgt,encL 5 encX e,za cs]] (·=.bool (zp op var width next els tgt cs.length)):=by
 refine fn_x zbt rfl ?_;unfold zbg;have hB:=hBig
 (refine Qb ?_;intros)
 refine zc (zg (zhq var) rfl) ?_;unfold zqJ
 by_cases hv:0≤var∧var < 65536<;>(refine Qb ?_;intros)
 case neg =>exact⟨_,.bool _ _,congrArg AV.bool (by unfold zp;exact lb)⟩
 by_cases q0:width=0<;>(refine Qb ?_;intros)
 case neg =>exact⟨_,.bool _ _,congrArg AV.bool (by unfold zp;exact lb)⟩
 by_cases q1:tgt=0<;>(refine Qb ?_;intros)
 case neg =>exact⟨_,.bool _ _,congrArg AV.bool (by unfold zp;exact lb)⟩
 by_cases q2:next=0<;>(refine Qb ?_;intros)
 case neg =>exact⟨_,.bool _ _,congrArg AV.bool (by unfold zp;exact lb)⟩
 by_cases q3:els=0<;>(refine Qb ?_;intros)
 case neg =>exact⟨_,.bool _ _,congrArg AV.bool (by unfold zp;exact lb)⟩
 exact⟨_,.bool _ _,congrArg AV.bool (by unfold zp;exact lb)⟩
theorem ztg (op var width next els tgt:Int) (e:List Ex) (cs:List Int) (h:op=2):zl Tryz.prog zaU [.agg [.int .i64 op,.int .i64 var,.int .i64 width,.int .i64 next,.int .i64 els,.int .u32 tgt,encL 5 encX e,za cs]] (·=.bool (zp op var width next els tgt cs.length)):=by
 refine fn_x zbt rfl ?_;unfold zbg;have hB:=hBig
 (refine Qb ?_;intros)
 refine zc (zg (zmt width) rfl) ?_;unfold zqz
 by_cases hv:width=1∨width=2∨width=4<;>(refine Qb ?_;intros)
 case neg =>exact⟨_,.bool _ _,congrArg AV.bool (by unfold zp;exact lb)⟩
 by_cases q0:var=0<;>(refine Qb ?_;intros)
 case neg =>exact⟨_,.bool _ _,congrArg AV.bool (by unfold zp;exact lb)⟩
 by_cases q1:tgt=0<;>(refine Qb ?_;intros)
 case neg =>exact⟨_,.bool _ _,congrArg AV.bool (by unfold zp;exact lb)⟩
 by_cases q2:next=0<;>(refine Qb ?_;intros)
 case neg =>exact⟨_,.bool _ _,congrArg AV.bool (by unfold zp;exact lb)⟩
 by_cases q3:els=0<;>(refine Qb ?_;intros)
 case neg =>exact⟨_,.bool _ _,congrArg AV.bool (by unfold zp;exact lb)⟩
 exact⟨_,.bool _ _,congrArg AV.bool (by unfold zp;exact lb)⟩
theorem zsT (op var width next els tgt:Int) (e:List Ex) (cs:List Int) (h:op=3):zl Tryz.prog zaU [.agg [.int .i64 op,.int .i64 var,.int .i64 width,.int .i64 next,.int .i64 els,.int .u32 tgt,encL 5 encX e,za cs]] (·=.bool (zp op var width next els tgt cs.length)):=by
 refine fn_x zbt rfl ?_;unfold zbg;have hB:=hBig
 (refine Qb ?_;intros)
 refine zc (zg (zhq var) rfl) ?_;unfold zqJ
 by_cases hv:0≤var∧var < 65536<;>(refine Qb ?_;intros)
 case neg =>exact⟨_,.bool _ _,congrArg AV.bool (by unfold zp;exact lb)⟩
 by_cases q0:width=0<;>(refine Qb ?_;intros)
 case neg =>exact⟨_,.bool _ _,congrArg AV.bool (by unfold zp;exact lb)⟩
 by_cases q1:tgt=0<;>(refine Qb ?_;intros)
 case neg =>exact⟨_,.bool _ _,congrArg AV.bool (by unfold zp;exact lb)⟩
 by_cases q2:next=0<;>(refine Qb ?_;intros)
 case neg =>exact⟨_,.bool _ _,congrArg AV.bool (by unfold zp;exact lb)⟩
 by_cases q3:els=0<;>(refine Qb ?_;intros)
 case neg =>exact⟨_,.bool _ _,congrArg AV.bool (by unfold zp;exact lb)⟩
 exact⟨_,.bool _ _,congrArg AV.bool (by unfold zp;exact lb)⟩
theorem zta (op var width next els tgt:Int) (e:List Ex) (cs:List Int) (h:op=4):zl Tryz.prog zaU [.agg [.int .i64 op,.int .i64 var,.int .i64 width,.int .i64 next,.int .i64 els,.int .u32 tgt,encL 5 encX e,za cs]] (·=.bool (zp op var width next els tgt cs.length)):=by
 refine fn_x zbt rfl ?_;unfold zbg;have hB:=hBig
 (refine Qb ?_;intros)
 by_cases q0:var=0<;>(refine Qb ?_;intros)
 case neg =>exact⟨_,.bool _ _,congrArg AV.bool (by unfold zp;exact lb)⟩
 by_cases q1:width=0<;>(refine Qb ?_;intros)
 case neg =>exact⟨_,.bool _ _,congrArg AV.bool (by unfold zp;exact lb)⟩
 by_cases q2:tgt=0<;>(refine Qb ?_;intros)
 case neg =>exact⟨_,.bool _ _,congrArg AV.bool (by unfold zp;exact lb)⟩
 by_cases q3:next=0<;>(refine Qb ?_;intros)
 case neg =>exact⟨_,.bool _ _,congrArg AV.bool (by unfold zp;exact lb)⟩
 by_cases q4:els=0<;>(refine Qb ?_;intros)
 case neg =>exact⟨_,.bool _ _,congrArg AV.bool (by unfold zp;exact lb)⟩
 exact⟨_,.bool _ _,congrArg AV.bool (by unfold zp;exact lb)⟩
theorem ztX (op var width next els tgt:Int) (e:List Ex) (cs:List Int) (h:op=5):zl Tryz.prog zaU [.agg [.int .i64 op,.int .i64 var,.int .i64 width,.int .i64 next,.int .i64 els,.int .u32 tgt,encL 5 encX e,za cs]] (·=.bool (zp op var width next els tgt cs.length)):=by
 refine fn_x zbt rfl ?_;unfold zbg;have hB:=hBig
 (refine Qb ?_;intros)
 by_cases q0:var=0<;>(refine Qb ?_;intros)
 case neg =>exact⟨_,.bool _ _,congrArg AV.bool (by unfold zp;exact lb)⟩
 by_cases q1:width=0<;>(refine Qb ?_;intros)
 case neg =>exact⟨_,.bool _ _,congrArg AV.bool (by unfold zp;exact lb)⟩
 by_cases q2:next=0<;>(refine Qb ?_;intros)
 case neg =>exact⟨_,.bool _ _,congrArg AV.bool (by unfold zp;exact lb)⟩
 by_cases q3:els=0<;>(refine Qb ?_;intros)
 case neg =>exact⟨_,.bool _ _,congrArg AV.bool (by unfold zp;exact lb)⟩
 exact⟨_,.bool _ _,congrArg AV.bool (by unfold zp;exact lb)⟩
theorem zsM (op var width next els tgt:Int) (e:List Ex) (cs:List Int) (h:op=6):zl Tryz.prog zaU [.agg [.int .i64 op,.int .i64 var,.int .i64 width,.int .i64 next,.int .i64 els,.int .u32 tgt,encL 5 encX e,za cs]] (·=.bool (zp op var width next els tgt cs.length)):=by
 refine fn_x zbt rfl ?_;unfold zbg;have hB:=hBig
 (refine Qb ?_;intros)
 by_cases q0:var=0<;>(refine Qb ?_;intros)
 case neg =>exact⟨_,.bool _ _,congrArg AV.bool (by unfold zp;exact lb)⟩
 by_cases q1:width=0<;>(refine Qb ?_;intros)
 case neg =>exact⟨_,.bool _ _,congrArg AV.bool (by unfold zp;exact lb)⟩
 by_cases q2:tgt=0<;>(refine Qb ?_;intros)
 case neg =>exact⟨_,.bool _ _,congrArg AV.bool (by unfold zp;exact lb)⟩
 by_cases q3:els=0<;>(refine Qb ?_;intros)
 case neg =>exact⟨_,.bool _ _,congrArg AV.bool (by unfold zp;exact lb)⟩
 exact⟨_,.bool _ _,congrArg AV.bool (by unfold zp;exact lb)⟩
theorem ztK (op var width next els tgt:Int) (e:List Ex) (cs:List Int) (h:op=7):zl Tryz.prog zaU [.agg [.int .i64 op,.int .i64 var,.int .i64 width,.int .i64 next,.int .i64 els,.int .u32 tgt,encL 5 encX e,za cs]] (·=.bool (zp op var width next els tgt cs.length)):=by
 refine fn_x zbt rfl ?_;unfold zbg;have hB:=hBig
 by_cases q0:var=0
 case neg =>
  ((refine Qb ?_;intros);(repeat' with_reducible apply Wg)<;>(refine Qb ?_;intros);all_goals (exact⟨_,.bool _ _,congrArg AV.bool (by unfold zp;exact lb)⟩))
 by_cases q1:width=0
 case neg =>
  ((refine Qb ?_;intros);(repeat' with_reducible apply Wg)<;>(refine Qb ?_;intros);all_goals (exact⟨_,.bool _ _,congrArg AV.bool (by unfold zp;exact lb)⟩))
 by_cases q2:tgt=0
 case neg =>
  ((refine Qb ?_;intros);(repeat' with_reducible apply Wg)<;>(refine Qb ?_;intros);all_goals (exact⟨_,.bool _ _,congrArg AV.bool (by unfold zp;exact lb)⟩))
 by_cases q3:cs.length=0
 case neg =>
  ((refine Qb ?_;intros);(repeat' with_reducible apply Wg)<;>(refine Qb ?_;intros);all_goals (exact⟨_,.bool _ _,congrArg AV.bool (by unfold zp;exact lb)⟩))
 ((refine Qb ?_;intros);(repeat' with_reducible apply Wg)<;>(refine Qb ?_;intros);all_goals (exact⟨_,.bool _ _,congrArg AV.bool (by unfold zp;exact lb)⟩))
theorem zsY (op var width next els tgt:Int) (e:List Ex) (cs:List Int) (h:op=8):zl Tryz.prog zaU [.agg [.int .i64 op,.int .i64 var,.int .i64 width,.int .i64 next,.int .i64 els,.int .u32 tgt,encL 5 encX e,za cs]] (·=.bool (zp op var width next els tgt cs.length)):=by
 refine fn_x zbt rfl ?_;unfold zbg;have hB:=hBig
 (refine Qb ?_;intros)
 by_cases g1:1≤cs.length<;>(refine Qb ?_;intros)
 case neg =>exact⟨_,.bool _ _,congrArg AV.bool (by unfold zp;exact lb)⟩
 by_cases g2:cs.length≤64<;>(refine Qb ?_;intros)
 case neg =>exact⟨_,.bool _ _,congrArg AV.bool (by unfold zp;exact lb)⟩
 by_cases q0:var=0<;>(refine Qb ?_;intros)
 case neg =>exact⟨_,.bool _ _,congrArg AV.bool (by unfold zp;exact lb)⟩
 by_cases q1:width=0<;>(refine Qb ?_;intros)
 case neg =>exact⟨_,.bool _ _,congrArg AV.bool (by unfold zp;exact lb)⟩
 by_cases q2:tgt=0<;>(refine Qb ?_;intros)
 case neg =>exact⟨_,.bool _ _,congrArg AV.bool (by unfold zp;exact lb)⟩
 by_cases q3:next=0<;>(refine Qb ?_;intros)
 case neg =>exact⟨_,.bool _ _,congrArg AV.bool (by unfold zp;exact lb)⟩
 by_cases q4:els=0<;>(refine Qb ?_;intros)
 case neg =>exact⟨_,.bool _ _,congrArg AV.bool (by unfold zp;exact lb)⟩
 exact⟨_,.bool _ _,congrArg AV.bool (by unfold zp;exact lb)⟩
theorem zte (op var width next els tgt:Int) (e:List Ex) (cs:List Int) (h:op=9):zl Tryz.prog zaU [.agg [.int .i64 op,.int .i64 var,.int .i64 width,.int .i64 next,.int .i64 els,.int .u32 tgt,encL 5 encX e,za cs]] (·=.bool (zp op var width next els tgt cs.length)):=by
 refine fn_x zbt rfl ?_;unfold zbg;have hB:=hBig
 (refine Qb ?_;intros)
 by_cases q0:var=0<;>(refine Qb ?_;intros)
 case neg =>exact⟨_,.bool _ _,congrArg AV.bool (by unfold zp;exact lb)⟩
 by_cases q1:width=0<;>(refine Qb ?_;intros)
 case neg =>exact⟨_,.bool _ _,congrArg AV.bool (by unfold zp;exact lb)⟩
 by_cases q2:tgt=0<;>(refine Qb ?_;intros)
 case neg =>exact⟨_,.bool _ _,congrArg AV.bool (by unfold zp;exact lb)⟩
 by_cases q3:next=0<;>(refine Qb ?_;intros)
 case neg =>exact⟨_,.bool _ _,congrArg AV.bool (by unfold zp;exact lb)⟩
 by_cases q4:els=0<;>(refine Qb ?_;intros)
 case neg =>exact⟨_,.bool _ _,congrArg AV.bool (by unfold zp;exact lb)⟩
 exact⟨_,.bool _ _,congrArg AV.bool (by unfold zp;exact lb)⟩
theorem zrF (op var width next els tgt:Int) (e:List Ex) (cs:List Int) (h:op=10):zl Tryz.prog zaU [.agg [.int .i64 op,.int .i64 var,.int .i64 width,.int .i64 next,.int .i64 els,.int .u32 tgt,encL 5 encX e,za cs]] (·=.bool (zp op var width next els tgt cs.length)):=by
 refine fn_x zbt rfl ?_;unfold zbg;have hB:=hBig
 (refine Qb ?_;intros)
 by_cases q0:var=0<;>(refine Qb ?_;intros)
 case neg =>exact⟨_,.bool _ _,congrArg AV.bool (by unfold zp;exact lb)⟩
 by_cases q1:width=0<;>(refine Qb ?_;intros)
 case neg =>exact⟨_,.bool _ _,congrArg AV.bool (by unfold zp;exact lb)⟩
 by_cases q2:tgt=0<;>(refine Qb ?_;intros)
 case neg =>exact⟨_,.bool _ _,congrArg AV.bool (by unfold zp;exact lb)⟩
 by_cases q3:next=0<;>(refine Qb ?_;intros)
 case neg =>exact⟨_,.bool _ _,congrArg AV.bool (by unfold zp;exact lb)⟩
 by_cases q4:els=0<;>(refine Qb ?_;intros)
 case neg =>exact⟨_,.bool _ _,congrArg AV.bool (by unfold zp;exact lb)⟩
 exact⟨_,.bool _ _,congrArg AV.bool (by unfold zp;exact lb)⟩
theorem zrV (op var width next els tgt:Int) (e:List Ex) (cs:List Int) (h1:1≤op) (h2:op≤10):zl Tryz.prog zaU [.agg [.int .i64 op,.int .i64 var,.int .i64 width,.int .i64 next,.int .i64 els,.int .u32 tgt,encL 5 encX e,za cs]] (·=.bool (zp op var width next els tgt cs.length)):=by
 by_cases h10:op=1
 · exact ztc op var width next els tgt e cs h10
 by_cases h20:op=2
 · exact ztg op var width next els tgt e cs h20
 by_cases h30:op=3
 · exact zsT op var width next els tgt e cs h30
 by_cases h40:op=4
 · exact zta op var width next els tgt e cs h40
 by_cases h50:op=5
 · exact ztX op var width next els tgt e cs h50
 by_cases h60:op=6
 · exact zsM op var width next els tgt e cs h60
 by_cases h70:op=7
 · exact ztK op var width next els tgt e cs h70
 by_cases h80:op=8
 · exact zsY op var width next els tgt e cs h80
 by_cases h90:op=9
 · exact zte op var width next els tgt e cs h90
 by_cases h100:op=10
 · exact zrF op var width next els tgt e cs h100
 omega
def zix:List Ex→Int
 | []=>0
 | x::l=>if zis x≠0 then zis x else zix l
theorem zou {l:List Ex} {i:Nat} (h:i < l.length):zix (l.drop i)=if zis l[i]≠0 then zis l[i] else zix (l.drop (i+1)):=by rw[Wf h,zix]
def zrA (op var width next els tgt:Int) (e:List Ex) (cs:List Int):Int :=
 if (op < 1∨10 < op)∨zX op≠e.length then 2 else if zix e≠0 then zix e else if zp op var width next els tgt cs.length=true then 0 else 2
theorem Qj {p q:Prop}(k:q)(h:Im q p:=by(repeat first|simp(disch:=try exact dis1) only[evD,Nat.reduceBEq,Nat.reduceAdd,Nat.reduceLeDiff,dT,dF,fldP,za,zt] | ((with_reducible apply Im.i);intro _) | ((with_reducible apply Im.a);omega));exact Im.r):p:=h k
theorem QN {p q:Prop}(k:q)(h:Im q p:=by(repeat first|simp(disch:=try exact dis1) only[evD,Nat.reduceBEq,Nat.reduceAdd,Nat.reduceLeDiff,dF,fldP,za] | ((with_reducible apply Im.i);intro _) | ((with_reducible apply Im.a);omega));exact Im.r):p:=h k
theorem QO {p q:Prop}(k:q)(h:Im q p:=by(repeat first|simp(disch:=try exact dis1) only[evD,Nat.reduceBEq,Nat.reduceAdd,Nat.reduceLeDiff,fldP,zlA,tab,List.getD_cons_zero,List.getD_cons_succ,za] | ((with_reducible apply Im.i);intro _) | ((with_reducible apply Im.a);omega));exact Im.r):p:=h k
theorem zm0 (op var width next els tgt:Int) (e:List Ex) (cs:List Int):zl Tryz.prog zdF [.agg [.int .i64 op,.int .i64 var,.int .i64 width,.int .i64 next,.int .i64 els,.int .u32 tgt,encL 5 encX e,za cs]] (·=.int .i64 (zrA op var width next els tgt e cs)):=by
 refine fn_x zmS rfl ?_;unfold ziq zrA;have hB:=hBig
 by_cases h1:1≤op
 case neg =>
  rw[if_pos (by omega)]
  (refine Qj ?_;intros)
  exact⟨_,.int _ _ _,rfl⟩
 by_cases h2:op≤10
 case neg =>
  rw[if_pos (by omega)]
  (refine Qj ?_;intros)
  exact⟨_,.int _ _ _,rfl⟩
 (refine QN ?_;intros)
 refine zbT (zg (zqV op h1 h2) rfl) ?_;generalize zX op=n
 by_cases h3:n=e.length
 case neg =>
  rw[if_pos (by omega)]
  (refine Qj ?_;intros)
  exact⟨_,.int _ _ _,rfl⟩
 rw[if_neg (by omega)]
 (repeat first|simp(disch:=try exact dis1) only[evD,Nat.reduceBEq,Nat.reduceAdd,Nat.reduceLeDiff,dT,dF,fldP,za]|with_reducible first|intro _|refine aJ ?_)
 refine zk (fun i:Nat=>([(1,encP 8 [.int .i64 op,.int .i64 var,.int .i64 width,.int .i64 next,.int .i64 els,.int .u32 tgt,encL 5 encX e,za cs]),(3,.int .i64 i)],[])) 0 (fun i=>i≤e.length∧zix (e.drop i)=zix e) (fun i=>e.length - i) 0 ⟨Wa _,rfl⟩ (Ent.keep rfl fin5) ?_;rintro i ⟨hi,hgo⟩ wf;unfold zgq
 by_cases hl:i < e.length
 ·
  rw[zou hl] at hgo
  (repeat first|simp(disch:=try exact dis1) only[evD,Nat.reduceBEq,Nat.reduceAdd,Nat.reduceLeDiff,fldP,dT,zm hl,zbP,zbp]|with_reducible first|intro _|refine aJ ?_)
  refine zc (zg (zmV e[i]) (flX rfl)) ?_
  by_cases hx:zis e[i]=0
  ·
   rw[if_neg (by omega)] at hgo
   (refine Qk ?_;intros)
   exact⟨i+1,⟨by omega,hgo⟩,by omega,Ent.keep rfl fin5⟩
  ·
   rw[if_pos hx] at hgo;rw[←hgo,if_pos hx]
   (repeat first|simp(disch:=try exact dis1) only[evD,Nat.reduceBEq,Nat.reduceAdd,Nat.reduceLeDiff,dT,zt]|with_reducible first|intro _|refine aJ ?_)
   exact⟨_,.int _ _ _,rfl⟩
 rw[Wd (by omega),zix] at hgo;rw[←hgo,if_neg (by omega)]
 (refine Qi ?_;intros)
 unfold zf5
 (refine QO ?_;intros)
 refine zc (zg (zqo op var width next els tgt e cs h1 h2) rfl) ?_
 cases hu:zz op var width next els tgt cs.length with
 |
  false =>
  unfold zz at hu;have hu2:=of_decide_eq_false hu;rw[if_neg (by unfold zp;rw[dF (fun h=>hu2 h.1)];simp)]
  (refine Qj ?_;intros)
  exact⟨_,.int _ _ _,rfl⟩
 |
  true =>
  unfold zz at hu;have hu2:=of_decide_eq_true hu
  (refine Qj ?_;intros)
  refine zc (zg (zmA var) rfl) ?_;unfold zqJ
  by_cases hv:0≤var∧var < 65536
  case neg =>
   rw[if_neg (by unfold zp;rw[dF (fun h=>hv h.2.1)];simp)]
   (refine Qj ?_;intros)
   exact⟨_,.int _ _ _,rfl⟩
  (refine Qj ?_;intros)
  by_cases o2:op=2
  ·
   (refine Qj ?_;intros)
   by_cases w1:width=1
   ·
    rw[if_pos (by unfold zp;exact dT ⟨hu2,hv,by omega,by omega⟩)]
    (refine Qj ?_;intros)
    exact⟨_,.int _ _ _,rfl⟩
   (refine Qj ?_;intros)
   by_cases w2:width=2
   ·
    rw[if_pos (by unfold zp;exact dT ⟨hu2,hv,by omega,by omega⟩)]
    (refine Qj ?_;intros)
    exact⟨_,.int _ _ _,rfl⟩
   (refine Qj ?_;intros)
   by_cases w4:width=4
   ·
    rw[if_pos (by unfold zp;exact dT ⟨hu2,hv,by omega,by omega⟩)]
    (refine Qj ?_;intros)
    exact⟨_,.int _ _ _,rfl⟩
   rw[if_neg (by unfold zp;rw[dF (fun h=>by have:=h.2.2.1 o2;omega)];simp)]
   (refine Qj ?_;intros)
   exact⟨_,.int _ _ _,rfl⟩
  (refine Qj ?_;intros)
  by_cases o8:op=8
  ·
   (refine Qj ?_;intros)
   by_cases c1:1≤cs.length
   case neg =>
    rw[if_neg (by unfold zp;rw[dF (fun h=>by have:=h.2.2.2 o8;omega)];simp)]
    (refine Qj ?_;intros)
    exact⟨_,.int _ _ _,rfl⟩
   (refine Qj ?_;intros)
   by_cases c2:cs.length≤64
   case neg =>
    rw[if_neg (by unfold zp;rw[dF (fun h=>by have:=h.2.2.2 o8;omega)];simp)]
    (refine Qj ?_;intros)
    exact⟨_,.int _ _ _,rfl⟩
   rw[if_pos (by unfold zp;exact dT ⟨hu2,hv,by omega,by omega⟩)]
   (refine Qj ?_;intros)
   exact⟨_,.int _ _ _,rfl⟩
  rw[if_pos (by unfold zp;exact dT ⟨hu2,hv,by omega,by omega⟩)]
  (refine Qj ?_;intros)
  exact⟨_,.int _ _ _,rfl⟩
theorem ztS {op:Int}:zX op < 0↔(op < 1∨10 < op):=by
 unfold zX;constructor
 ·
  intro h
  repeat' split at h
  all_goals omega
 · intro h;rw[if_neg (by omega),if_neg (by omega),if_neg (by omega)];omega
theorem Qs {p q:Prop}(k:q)(h:Im q p:=by(repeat first|simp(disch:=try exact dis1) only[evD,Nat.reduceBEq,Nat.reduceAdd,Nat.reduceLeDiff,dT,dF,fldP,za,zaD] | ((with_reducible apply Im.i);intro _) | ((with_reducible apply Im.a);omega));exact Im.r):p:=h k
theorem zoz (op var width next els tgt:Int) (e:List Ex) (cs:List Int):zl Tryz.prog zeP [.agg [.int .i64 op,.int .i64 var,.int .i64 width,.int .i64 next,.int .i64 els,.int .u32 tgt,encL 5 encX e,za cs]] (·=.int .i64 (zrA op var width next els tgt e cs)):=by
 refine fn_x znT rfl ?_;unfold zjf zrA;have hB:=hBig
 (refine Qs ?_;intros)
 refine zc (zg (zlR op) rfl) ?_;have hneg:=ztS (op:=op);generalize zX op=n at hneg ⊢
 by_cases h1:n < 0
 ·
  rw[if_pos (.inl (hneg.1 h1))]
  (refine Qs ?_;intros)
  exact⟨_,.int _ _ _,rfl⟩
 have hop:¬(op < 1∨10 < op):=fun h=>h1 (hneg.2 h)
 (refine Qs ?_;intros)
 by_cases h3:n=e.length
 case neg =>
  rw[if_pos (.inr h3)]
  (refine Qs ?_;intros)
  exact⟨_,.int _ _ _,rfl⟩
 rw[if_neg (by omega)]
 (refine Qs ?_;intros)
 refine zk (fun i:Nat=>([(1,encP 8 [.int .i64 op,.int .i64 var,.int .i64 width,.int .i64 next,.int .i64 els,.int .u32 tgt,encL 5 encX e,za cs]),(20,encL 5 encX e),(21,.int .i64 e.length),(22,.int .i64 i)],[])) 0 (fun i=>i≤e.length∧zix (e.drop i)=zix e) (fun i=>e.length - i) 0 ⟨Wa _,rfl⟩ (Ent.keep rfl fin5) ?_;rintro i ⟨hi,hgo⟩ wf;unfold zgY
 by_cases hl:i < e.length
 ·
  rw[zou hl] at hgo
  (repeat first|simp(disch:=try exact dis1) only[evD,Nat.reduceBEq,Nat.reduceAdd,Nat.reduceLeDiff,fldP,dT,zm hl,zbP,zbp]|with_reducible first|intro _|refine aJ ?_)
  refine zc (zg (zdT e[i]) (flX rfl)) ?_
  by_cases hx:zis e[i]=0
  ·
   rw[if_neg (by omega)] at hgo
   (refine Qk ?_;intros)
   exact⟨i+1,⟨by omega,hgo⟩,by omega,(Ent.tab [] [] rfl Qak Qak)⟩
  ·
   rw[if_pos hx] at hgo;rw[←hgo,if_pos hx]
   (repeat first|simp(disch:=try exact dis1) only[evD,Nat.reduceBEq,Nat.reduceAdd,Nat.reduceLeDiff,dT,zaD]|with_reducible first|intro _|refine aJ ?_)
   exact⟨_,.int _ _ _,rfl⟩
 rw[Wd (by omega),zix] at hgo;rw[←hgo,if_neg (by omega)]
 (refine Qi ?_;intros)
 unfold zgT
 (refine QO ?_;intros)
 refine zc (zg (zrV op var width next els tgt e cs (by omega) (by omega)) rfl) ?_
 cases zp op var width next els tgt cs.length with
 |
  false =>
  (refine Qs ?_;intros)
  exact⟨_,.int _ _ _,rfl⟩
 |
  true =>
  (refine Qs ?_;intros)
  exact⟨_,.int _ _ _,rfl⟩
structure St where
 op:Int
 var:Int
 width:Int
 next:Int
 els:Int
 tgt:Int
 e:List Ex
 cases:List Int
def St.cells (s:St):List AV:=[.int .i64 s.op,.int .i64 s.var,.int .i64 s.width,.int .i64 s.next,.int .i64 s.els,.int .u32 s.tgt,encL 5 encX s.e,za s.cases]
structure Bl where
 addr:Int
 stmts:List St
def Bl.cells (b:Bl):List AV:=[.int .u32 b.addr,encL 8 St.cells b.stmts]
structure G where
 addr:Int
 blocks:List Bl
def G.cells (g:G):List AV:=[.int .u32 g.addr,encL 2 Bl.cells g.blocks]
theorem St.len (s:St):s.cells.length=8:=rfl
theorem St.flat (s:St):zr s.cells=true:=rfl
theorem St.eight (s:St):[s.cells.getD 0 .undef,s.cells.getD 1 .undef,s.cells.getD 2 .undef,s.cells.getD 3 .undef,s.cells.getD 4 .undef,s.cells.getD 5 .undef,s.cells.getD 6 .undef,s.cells.getD 7 .undef]=s.cells:=rfl
def zlK (s:St):Bool:=decide (6≤s.op∧s.op≤10)
def zg0 (s:St):List Int:=if s.op=6 then [s.next] else if s.op=7 then [s.next,s.els] else if s.op=8 then s.cases else []
def St.check (s:St):Int:=zrA s.op s.var s.width s.next s.els s.tgt s.e s.cases
theorem zmQ (s:St):zl Tryz.prog zdF [.agg s.cells] (·=.int .i64 s.check):=zm0 _ _ _ _ _ _ _ _
theorem zn2 (s:St):zl Tryz.prog zeP [.agg s.cells] (·=.int .i64 s.check):=zoz _ _ _ _ _ _ _ _
theorem ztt (s:St):zl Tryz.prog zmb [.agg s.cells] (·=.bool (zlK s)):=by
 refine fn_x ztG rfl ?_;unfold znO;have hB:=hBig;obtain⟨op,var,width,next,els,tgt,e,cs⟩:=s;unfold zlK
 by_cases h1:6≤op
 ·
  (repeat first|simp(disch:=try exact dis1) only[evD,Nat.reduceBEq,Nat.reduceAdd,Nat.reduceLeDiff,dT,fldP,za,St.cells,zkI]|with_reducible first|intro _|refine aJ ?_)
  exact⟨_,.bool _ _,congrArg AV.bool (decide_eq_decide.2 (by omega))⟩
 ·
  (repeat first|simp(disch:=try exact dis1) only[evD,Nat.reduceBEq,Nat.reduceAdd,Nat.reduceLeDiff,dF,fldP,za,St.cells,zkI]|with_reducible first|intro _|refine aJ ?_)
  exact⟨_,.bool _ _,rfl⟩
theorem ziu (s:St):zl Tryz.prog zcB [.agg s.cells] (·=.bool (zlK s)):=by
 refine fn_x zmX rfl ?_;unfold ziI;have hB:=hBig;obtain⟨op,var,width,next,els,tgt,e,cs⟩:=s;unfold zlK
 by_cases h1:6≤op
 ·
  (repeat first|simp(disch:=try exact dis1) only[evD,Nat.reduceBEq,Nat.reduceAdd,Nat.reduceLeDiff,dT,fldP,za,St.cells,ze4]|with_reducible first|intro _|refine aJ ?_)
  exact⟨_,.bool _ _,congrArg AV.bool (decide_eq_decide.2 (by omega))⟩
 ·
  (repeat first|simp(disch:=try exact dis1) only[evD,Nat.reduceBEq,Nat.reduceAdd,Nat.reduceLeDiff,dF,fldP,za,St.cells,ze4]|with_reducible first|intro _|refine aJ ?_)
  exact⟨_,.bool _ _,rfl⟩
theorem Qx {p q:Prop}(k:q)(h:Im q p:=by(repeat first|simp(disch:=try exact dis1) only[evD,Nat.reduceBEq,Nat.reduceAdd,Nat.reduceLeDiff,dT,dF,fldP,za,St.cells,zdb] | ((with_reducible apply Im.i);intro _) | ((with_reducible apply Im.a);omega));exact Im.r):p:=h k
theorem zj5 (s:St):zl Tryz.prog zfT [.agg s.cells] (·=za (zg0 s)):=by
 refine fn_x zo0 rfl ?_;unfold zj2;have hB:=hBig;obtain⟨op,var,width,next,els,tgt,e,cs⟩:=s;unfold zg0;simp only
 by_cases h6:op=6
 ·
  rw[if_pos h6]
  (refine Qx ?_;intros)
  exact⟨_,zaL (l:=[next]) trivial rfl (by simp only[Wq];omega),rfl⟩
 rw[if_neg h6]
 by_cases h7:op=7
 ·
  rw[if_pos h7]
  (refine Qx ?_;intros)
  exact⟨_,zaL (l:=[next,els]) trivial rfl (by simp only[Wn,We];omega),rfl⟩
 rw[if_neg h7]
 by_cases h8:op=8
 ·
  rw[if_pos h8]
  (refine Qx ?_;intros)
  exact⟨_,zal rfl,rfl⟩
 rw[if_neg h8]
 (refine Qx ?_;intros)
 exact⟨_,zaL (l:=[]) trivial rfl (by simp only[We];omega),rfl⟩
end Go.Ab
namespace Go.Ab
open Go.RowKit Go.Proofs Go.Proofs.YtjcbhpmmngfmeaaGreat
section
variable {HH:Type} {enc:TypeId × Value→HH} {w:World} {base:Nat} {spare:Nat→Bool} {held:Bool} {L:Nat→Prop} (hL:∀b,¬L b)
include hL
theorem zyX {fuel:Nat} {cs:List Value} {y:DataW HH × List MemPlace} (h:DataW.trod enc Tryz.prog w base spare held fuel 60 cs=some y):∃s:St,ElOk w L cs s.cells:=by
 have hcx:Tryz.prog.cellsOf 101=5:=by kernel_rfl
 obtain⟨xs,n,rfl,rfl,hlen,hxs,hf⟩:=DataW.trod_struct Tryz.underlying60 h
 have hc:Tryz.prog.cellsOf 60=8:=by kernel_rfl
 have hc3:Tryz.prog.cellsOf 3=1:=by kernel_rfl
 have hc22:Tryz.prog.cellsOf 22=1:=by kernel_rfl
 have hc29:Tryz.prog.cellsOf 29=1:=by kernel_rfl
 have hc42:Tryz.prog.cellsOf 42=1:=by kernel_rfl
 rw[hc] at hlen
 have hget:∀i,i < 8→xs[i]? = some (xs.getD i (.nil,[])):=fun i hi=>by rw[Wc,Wi (by rw[hxs];exact hi)];rfl
 match cs,hlen with
 |
  [c0,c1,c2,c3,c4,c5,c6,c7],_ =>
  have f0:DataW.trod enc Tryz.prog w base spare held n 3 (([c0,c1,c2,c3,c4,c5,c6,c7].drop 0).take (Tryz.prog.cellsOf 3))=some (xs.getD 0 (.nil,[])):=(hf 0 _ rfl).trans (hget 0 (by decide));rw[hc3] at f0;replace f0:DataW.trod enc Tryz.prog w base spare held n 3 [c0]=some (xs.getD 0 (.nil,[])):=f0;have f1:DataW.trod enc Tryz.prog w base spare held n 3 (([c0,c1,c2,c3,c4,c5,c6,c7].drop 1).take (Tryz.prog.cellsOf 3))=some (xs.getD 1 (.nil,[])):=(hf 1 _ rfl).trans (hget 1 (by decide));rw[hc3] at f1;replace f1:DataW.trod enc Tryz.prog w base spare held n 3 [c1]=some (xs.getD 1 (.nil,[])):=f1;have f2:DataW.trod enc Tryz.prog w base spare held n 3 (([c0,c1,c2,c3,c4,c5,c6,c7].drop 2).take (Tryz.prog.cellsOf 3))=some (xs.getD 2 (.nil,[])):=(hf 2 _ rfl).trans (hget 2 (by decide));rw[hc3] at f2;replace f2:DataW.trod enc Tryz.prog w base spare held n 3 [c2]=some (xs.getD 2 (.nil,[])):=f2;have f3:DataW.trod enc Tryz.prog w base spare held n 3 (([c0,c1,c2,c3,c4,c5,c6,c7].drop 3).take (Tryz.prog.cellsOf 3))=some (xs.getD 3 (.nil,[])):=(hf 3 _ rfl).trans (hget 3 (by decide));rw[hc3] at f3;replace f3:DataW.trod enc Tryz.prog w base spare held n 3 [c3]=some (xs.getD 3 (.nil,[])):=f3;have f4:DataW.trod enc Tryz.prog w base spare held n 3 (([c0,c1,c2,c3,c4,c5,c6,c7].drop 4).take (Tryz.prog.cellsOf 3))=some (xs.getD 4 (.nil,[])):=(hf 4 _ rfl).trans (hget 4 (by decide));rw[hc3] at f4;replace f4:DataW.trod enc Tryz.prog w base spare held n 3 [c4]=some (xs.getD 4 (.nil,[])):=f4;have f5:DataW.trod enc Tryz.prog w base spare held n 22 (([c0,c1,c2,c3,c4,c5,c6,c7].drop 5).take (Tryz.prog.cellsOf 22))=some (xs.getD 5 (.nil,[])):=(hf 5 _ rfl).trans (hget 5 (by decide));rw[hc22] at f5;replace f5:DataW.trod enc Tryz.prog w base spare held n 22 [c5]=some (xs.getD 5 (.nil,[])):=f5;have f6:DataW.trod enc Tryz.prog w base spare held n 42 (([c0,c1,c2,c3,c4,c5,c6,c7].drop 6).take (Tryz.prog.cellsOf 42))=some (xs.getD 6 (.nil,[])):=(hf 6 _ rfl).trans (hget 6 (by decide));rw[hc42] at f6;replace f6:DataW.trod enc Tryz.prog w base spare held n 42 [c6]=some (xs.getD 6 (.nil,[])):=f6;have f7:DataW.trod enc Tryz.prog w base spare held n 29 (([c0,c1,c2,c3,c4,c5,c6,c7].drop 7).take (Tryz.prog.cellsOf 29))=some (xs.getD 7 (.nil,[])):=(hf 7 _ rfl).trans (hget 7 (by decide));rw[hc29] at f7;replace f7:DataW.trod enc Tryz.prog w base spare held n 29 [c7]=some (xs.getD 7 (.nil,[])):=f7;obtain⟨n0,h0,w0⟩:=zhN Tryz.underlying3 f0;obtain⟨n1,h1,w1⟩:=zhN Tryz.underlying3 f1;obtain⟨n2,h2,w2⟩:=zhN Tryz.underlying3 f2;obtain⟨n3,h3,w3⟩:=zhN Tryz.underlying3 f3;obtain⟨n4,h4,w4⟩:=zhN Tryz.underlying3 f4;obtain⟨n5,h5,w5⟩:=zhN Tryz.underlying22 f5;obtain⟨l6,v6,h6,o6,w6⟩:=zrU (L:=L) (α:=Ex) (cells:=encX) hL Tryz.underlying42 hcx (fun fuel' hf' cs y h _=>zBY hL fuel' fuel' (Nat.le_refl _) cs y h) f6;obtain⟨l7,v7,h7,o7,w7⟩:=zwp Tryz.underlying29 Tryz.underlying3 hc3 hL f7;cases h0;cases h1;cases h2;cases h3;cases h4;cases h5;cases h6;cases h7;refine⟨⟨n0,n1,n2,n3,n4,n5,l6,l7⟩,fun j hj=>?_⟩
  match j with
  | 0=>exact⟨.int _ _ _ w0,rfl⟩
  | 1=>exact⟨.int _ _ _ w1,rfl⟩
  | 2=>exact⟨.int _ _ _ w2,rfl⟩
  | 3=>exact⟨.int _ _ _ w3,rfl⟩
  | 4=>exact⟨.int _ _ _ w4,rfl⟩
  | 5=>exact⟨.int _ _ _ w5,rfl⟩
  | 6=>exact⟨w6 _,o6⟩
  | 7=>exact⟨w7 _,o7⟩
  | j+8=>exact absurd hj (by simp)
theorem zyH {fuel:Nat} {cs:List Value} {y:DataW HH × List MemPlace} (h:DataW.trod enc Tryz.prog w base spare held fuel 38 cs=some y):∃b:Bl,ElOk w L cs b.cells:=by
 have hcs:Tryz.prog.cellsOf 60=8:=by kernel_rfl
 obtain⟨xs,n,rfl,rfl,hlen,hxs,hf⟩:=DataW.trod_struct Tryz.underlying38 h
 have hc:Tryz.prog.cellsOf 38=2:=by kernel_rfl
 have hc22:Tryz.prog.cellsOf 22=1:=by kernel_rfl
 have hc36:Tryz.prog.cellsOf 36=1:=by kernel_rfl
 rw[hc] at hlen
 have hget:∀i,i < 2→xs[i]? = some (xs.getD i (.nil,[])):=fun i hi=>by rw[Wc,Wi (by rw[hxs];exact hi)];rfl
 match cs,hlen with
 |
  [c0,c1],_ =>
  have f0:DataW.trod enc Tryz.prog w base spare held n 22 (([c0,c1].drop 0).take (Tryz.prog.cellsOf 22))=some (xs.getD 0 (.nil,[])):=(hf 0 _ rfl).trans (hget 0 (by decide));rw[hc22] at f0;replace f0:DataW.trod enc Tryz.prog w base spare held n 22 [c0]=some (xs.getD 0 (.nil,[])):=f0;have f1:DataW.trod enc Tryz.prog w base spare held n 36 (([c0,c1].drop 1).take (Tryz.prog.cellsOf 36))=some (xs.getD 1 (.nil,[])):=(hf 1 _ rfl).trans (hget 1 (by decide));rw[hc36] at f1;replace f1:DataW.trod enc Tryz.prog w base spare held n 36 [c1]=some (xs.getD 1 (.nil,[])):=f1;obtain⟨n0,h0,w0⟩:=zhN Tryz.underlying22 f0;obtain⟨l1,v1,h1,o1,w1⟩:=zqQ (α:=St) (cells:=St.cells) (L:=L) Tryz.underlying36 hcs hL (fun _ _ _ h _=>zyX hL h) f1;cases h0;cases h1;refine⟨⟨n0,l1⟩,fun j hj=>?_⟩
  match j with
  | 0=>exact⟨.int _ _ _ w0,rfl⟩
  | 1=>exact⟨w1 _,o1⟩
  | j+2=>exact absurd hj (by simp)
theorem zzP {fuel:Nat} {cs:List Value} {y:DataW HH × List MemPlace} (h:DataW.trod enc Tryz.prog w base spare held fuel 25 cs=some y):∃g:G,cs.length=2∧ElOk w L cs g.cells∧∀j,j < 2→∀ι,VR w L ι (cs.getD j undef) (g.cells.getD j .undef):=by
 have hcb:Tryz.prog.cellsOf 38=2:=by kernel_rfl
 obtain⟨xs,n,rfl,rfl,hlen,hxs,hf⟩:=DataW.trod_struct Tryz.underlying25 h
 have hc:Tryz.prog.cellsOf 25=2:=by kernel_rfl
 have hc22:Tryz.prog.cellsOf 22=1:=by kernel_rfl
 have hc23:Tryz.prog.cellsOf 23=1:=by kernel_rfl
 rw[hc] at hlen
 have hget:∀i,i < 2→xs[i]? = some (xs.getD i (.nil,[])):=fun i hi=>by rw[Wc,Wi (by rw[hxs];exact hi)];rfl
 match cs,hlen with
 |
  [c0,c1],_ =>
  have f0:DataW.trod enc Tryz.prog w base spare held n 22 (([c0,c1].drop 0).take (Tryz.prog.cellsOf 22))=some (xs.getD 0 (.nil,[])):=(hf 0 _ rfl).trans (hget 0 (by decide));rw[hc22] at f0;replace f0:DataW.trod enc Tryz.prog w base spare held n 22 [c0]=some (xs.getD 0 (.nil,[])):=f0;have f1:DataW.trod enc Tryz.prog w base spare held n 23 (([c0,c1].drop 1).take (Tryz.prog.cellsOf 23))=some (xs.getD 1 (.nil,[])):=(hf 1 _ rfl).trans (hget 1 (by decide));rw[hc23] at f1;replace f1:DataW.trod enc Tryz.prog w base spare held n 23 [c1]=some (xs.getD 1 (.nil,[])):=f1;obtain⟨n0,h0,w0⟩:=zhN Tryz.underlying22 f0;obtain⟨l1,v1,h1,o1,w1⟩:=zqQ (α:=Bl) (cells:=Bl.cells) (L:=L) Tryz.underlying23 hcb hL (fun _ _ _ h _=>zyH hL h) f1;cases h0;cases h1;refine⟨⟨n0,l1⟩,rfl,fun j hj=>?_,fun j hj ι=>?_⟩
  ·
   match j with
   | 0=>exact⟨.int _ _ _ w0,rfl⟩
   | 1=>exact⟨w1 _,o1⟩
   | j+2=>exact absurd hj (by simp)
  ·
   match j with
   | 0=>exact .int _ _ _ w0
   | 1=>exact w1 _
   | j+2=>omega
theorem open_graph {v:Value} {d:DataW HH} {ps:List MemPlace} (hv:Value.okWide Tryz.prog w .any base 25 v) {b2:Nat} (h:DataW.Trod enc Tryz.prog w b2 spare held 25 v d ps):∃g:G,True∧∀ι,VR w L ι v (.agg g.cells):=by
 obtain⟨fuel,hf⟩:=h;unfold Value.okWide at hv;rw[Tryz.underlying25] at hv;simp only at hv;obtain⟨cs,rfl,_,_⟩:=hv;have hf':DataW.trod enc Tryz.prog w b2 spare held fuel 25 cs.toList=some (d,ps):=hf;obtain⟨g,h1,h2,h3⟩:=zzP hL hf'
 refine⟨g,trivial,fun ι=>.agg ι cs _ (by
  have:cs.size=2:=by simpa using h1
  rw[this];rfl) (fun i v hi=>?_) (fun i v a hi ha=>?_)⟩
 ·
  have hi2:i < cs.size:=by
   rcases Nat.lt_or_ge i cs.size with h|h
   · exact h
   · rw[Wr h] at hi;cases hi
  have:=(h2 i (by simpa using hi2)).2;rw[Wc,Ws,hi] at this;exact this
 ·
  have hi2:i < cs.size:=by
   rcases Nat.lt_or_ge i cs.size with h|h
   · exact h
   · rw[Wr h] at hi;cases hi
  have hi3:i < 2:=by rw[←h1];simpa using hi2
  have:=h3 i hi3 ι;rw[Wc,Ws,hi,Wc,ha] at this;exact this
end
end Go.Ab
namespace Go.Ab
open Go.RowKit Go.Proofs
def zeB:ACode :=
  .region [
  ⟨(some 6),.mov (.t 11),none⟩] [11]
def zb3:ACode :=
  .block 1
  (.seq
  (.region [
   ⟨(some 12),.load false 1 (.t 5),none⟩,
   ⟨(some 13),.mov (.t 6),none⟩,
   ⟨(some 14),.buildSl 1 1 [.int .i64 0] [(0,(.t 13))],none⟩,
   ⟨(some 15),.append 1 8 (.t 12) (.t 14),none⟩,
   (oS 1 5 15)] [6,12,13,14,15])
  (.seq
  (.region [
   ⟨(some 16),.load false 1 (.t 5),none⟩,
   ⟨(some 17),.len (.t 16),none⟩,
   ⟨(some 18),.load false 1 (.t 3),none⟩,
   ⟨(some 19),.bin .eql (.t 17) (.t 18),none⟩] [3,5,16,17,18])
  (.cond (.t 19)
   (.exit 0)
   (.skip))))
def zah:ACode :=
  .seq
 (.region [
  ⟨(some 20),.load false 1 (.t 5),none⟩,
  ⟨(some 4),.mov (.t 20),none⟩] [3,5,20])
 (.ret)
def zhi:ACode :=
 .seq
 (.region [
  ⟨(some 3),.rbox (.t 1),none⟩,
  ⟨(some 4),.mknil 1,none⟩] [1,4])
 (.seq
 (.region [
  ⟨(some 5),.alloc [.nilsl],none⟩] [])
 (.seq
 (.seq
 (.region [
  ⟨(some 7),.load false 1 (.t 3),none⟩,
  ⟨(some 8),.bin .leq (.t 7) (.c (.int .i64 0)),none⟩] [7])
 (.cond (.t 8)
  (.seq
  (.region [
   ⟨(some 9),.load false 1 (.t 5),none⟩,
   ⟨(some 4),.mov (.t 9),none⟩] [0,3,5,8,9])
  (.ret))
  (.skip)))
 (.seq
 (.seq
 (.region [
  ⟨(some 10),.mov (.t 0),none⟩] [0,4,8])
 (.block 0
  (.range (.t 10) [11] zeB zb3)))
 (zah))))
def zau:List ARet:=[.tmp 4]
theorem zkb:zT Tryz.prog zcS (qRo [3])=some (zhi.strip,zau,21):=by kernel_rfl
def zk6:ACode :=
 .seq
 (.region [
  ⟨(some 2),.rbox (.t 0),none⟩,
  ⟨(some 3),.rbox (.t 1),none⟩,
  ⟨(some 4),.mov (.c (.nilfn)),none⟩] [0,1,4])
 (.seq
 (.region [
  ⟨(some 5),.mkfn (.func zbu) [(.t 3),(.t 2)],none⟩,
  ⟨(some 4),.mov (.t 5),none⟩] [2,3,5])
 (.ret))
def zlF:List ARet:=[.tmp 4]
theorem zqP:zT Tryz.prog zjg (qRo [2,3])=some (zk6.strip,zlF,6):=by kernel_rfl
def zgX:ACode :=
  .seq
 (.seq
 (.region [
  ⟨(some 12),.mov (.t 0),none⟩,
  ⟨(some 13),.mov (.t 5),none⟩,
  ⟨(some 14),.callv (.t 12) [(.t 13)],none⟩] [12,13])
 (.cond (.t 14)
  (.skip)
  (.exit 0)))
 (.block 1
  (.seq
  (.region [
   ⟨(some 15),.fldaddr 1 1 (.t 2),none⟩,
   ⟨(some 16),.load false 1 (.t 15),none⟩,
   ⟨(some 17),.mov (.t 5),none⟩,
   ⟨(some 18),.idx 2 (.t 16) (.t 17),none⟩,
   ⟨(some 19),.load true 2 (.t 18),none⟩,
   ⟨(some 20),.call zaB [(.t 19)],none⟩,
   ⟨(some 6),.mov (.t 20),none⟩] [14,15,16,17,18,19,20])
  (.block 2
   (.seq
   (.region [
    ⟨(some 33),.mov (.t 6),none⟩,
    ⟨(some 34),.len (.t 33),none⟩,
    ⟨(some 35),.bin .eql (.t 34) (.c (.int .i64 0)),none⟩,
    ⟨(some 32),.mov (.t 35),none⟩] [33,34,35])
   (.cond (.t 32)
    (.ret)
    (.seq
    (.draw (
     .step ⟨(some 37),.fldaddr 1 1 (.t 2),none⟩ (
     .step ⟨(some 38),.load false 1 (.t 37),none⟩ (
     .step ⟨(some 39),.mov (.t 5),none⟩ (
     .step ⟨(some 40),.idx 2 (.t 38) (.t 39),none⟩ (
     .step ⟨(some 41),.fldaddr 1 1 (.t 40),none⟩ (
     .step ⟨(some 42),.load false 1 (.t 41),none⟩ (
     .step ⟨(some 43),.fldaddr 1 1 (.t 2),none⟩ (
     .step ⟨(some 44),.load false 1 (.t 43),none⟩ (
     .step ⟨(some 45),.mov (.t 5),none⟩ (
     .step ⟨(some 46),.idx 2 (.t 44) (.t 45),none⟩ (
     .step ⟨(some 47),.fldaddr 1 1 (.t 46),none⟩ (
     .step ⟨(some 48),.load false 1 (.t 47),none⟩ (
     .step ⟨(some 49),.len (.t 48),none⟩ (
     .step ⟨(some 50),.bin .sub (.t 49) (.c (.int .i64 1)),none⟩ (
     .step ⟨(some 51),.idx 8 (.t 42) (.t 50),none⟩ (
     .step ⟨(some 52),.fldaddr 0 1 (.t 51),none⟩ (
     .step ⟨(some 53),.load false 1 (.t 52),none⟩ (
     .step ⟨(some 54),.bin .eql (.t 53) (.c (.int .i64 6)),none⟩ (
     .step ⟨(some 36),.mov (.t 54),none⟩ (
     .done)))))))))))))))))))) [5,32,37,38,39,40,41,42,43,44,45,46,47,48,49,50,51,52,53,54])
    (.cond (.t 36)
     (.region [
      ⟨(some 55),.mov (.t 6),none⟩,
      ⟨(some 56),.idx 1 (.t 55) (.c (.int .i64 0)),none⟩,
      ⟨(some 57),.load false 1 (.t 56),none⟩,
      ⟨(some 5),.mov (.t 57),none⟩] [6,36,55,56,57])
     (.seq
     (.region [
      ⟨(some 22),.mov (.t 4),none⟩,
      ⟨(some 23),.mov (.t 6),none⟩,
      ⟨(some 24),.len (.t 23),none⟩,
      ⟨(some 25),.call zbS [(.t 22),(.t 24)],none⟩,
      ⟨(some 21),.mov (.t 25),none⟩,
      ⟨(some 26),.ext 0 (.t 21),none⟩,
      ⟨(some 27),.ext 1 (.t 21),none⟩,
      ⟨(some 7),.mov (.t 26),none⟩,
      ⟨(some 8),.mov (.t 27),none⟩] [8,21,22,23,24,25,26,27,36])
     (.region [
      ⟨(some 28),.mov (.t 6),none⟩,
      ⟨(some 29),.mov (.t 7),none⟩,
      ⟨(some 30),.idx 1 (.t 28) (.t 29),none⟩,
      ⟨(some 31),.load false 1 (.t 30),none⟩,
      ⟨(some 5),.mov (.t 31),none⟩] [6,7,28,29,30,31])))))))))
def zjm:ACode :=
 .seq
 (.region [
  ⟨(some 9),.load false 1 (.t 1),none⟩,
  ⟨(some 10),.build [.nilsl,.int .i64 0] [(0,1,(.t 9))],none⟩,
  ⟨(some 11),.box (.t 10),none⟩,
  ⟨(some 4),.mov (.t 11),none⟩] [1,9,10,11])
 (.seq
 (.region [
  ⟨(some 5),.mov (.c (.int .i64 0)),none⟩] [])
 (.block 0
  (.loop zgX)))
def zoF:List ARet:=[]
theorem znA:zT Tryz.prog zbu (qRo [])=some (zjm.strip,zoF,58):=by kernel_rfl
def zeZ:ACode :=
 .seq
 (.region [
  ⟨(some 4),.mov (.c (.int .i64 0)),none⟩,
  ⟨(some 5),.mov (.c (.bool false)),none⟩] [4,5])
 (.seq
 (.seq
 (.draw (
  .step ⟨(some 7),.mov (.t 0),none⟩ (
  .step ⟨(some 8),.xop .nilck [(.t 7)],none⟩ (
  .step ⟨(some 9),.fldaddr 1 1 (.t 8),none⟩ (
  .step ⟨(some 10),.load false 1 (.t 9),none⟩ (
  .step ⟨(some 11),.mov (.t 0),none⟩ (
  .step ⟨(some 12),.xop .nilck [(.t 11)],none⟩ (
  .step ⟨(some 13),.fldaddr 0 1 (.t 12),none⟩ (
  .step ⟨(some 14),.load false 1 (.t 13),none⟩ (
  .step ⟨(some 15),.len (.t 14),none⟩ (
  .step ⟨(some 16),.bin .geq (.t 10) (.t 15),none⟩ (
  .done))))))))))) [7,8,9,10,11,12,13,14,15])
 (.cond (.t 16)
  (.seq
  (.region [
   ⟨(some 4),.mov (.c (.int .i64 0)),none⟩,
   ⟨(some 5),.mov (.c (.bool false)),none⟩] [0,1,16])
  (.ret))
  (.skip)))
 (.seq
 (.draw (
  .step ⟨(some 17),.mov (.t 0),none⟩ (
  .step ⟨(some 18),.xop .nilck [(.t 17)],none⟩ (
  .step ⟨(some 19),.fldaddr 0 1 (.t 18),none⟩ (
  .step ⟨(some 20),.load false 1 (.t 19),none⟩ (
  .step ⟨(some 21),.mov (.t 0),none⟩ (
  .step ⟨(some 22),.xop .nilck [(.t 21)],none⟩ (
  .step ⟨(some 23),.fldaddr 1 1 (.t 22),none⟩ (
  .step ⟨(some 24),.load false 1 (.t 23),none⟩ (
  .step ⟨(some 25),.idx 1 (.t 20) (.t 24),none⟩ (
  .step ⟨(some 26),.load false 1 (.t 25),none⟩ (
  .step ⟨(some 27),.conv .u64 (.t 26),none⟩ (
  .step ⟨(some 28),.mov (.t 1),none⟩ (
  .step ⟨(some 29),.conv .u64 (.t 28),none⟩ (
  .step ⟨(some 30),.bin .rem (.t 27) (.t 29),none⟩ (
  .step ⟨(some 31),.conv .i64 (.t 30),none⟩ (
  .step ⟨(some 6),.mov (.t 31),none⟩ (
  .done))))))))))))))))) [1,4,5,16,17,18,19,20,21,22,23,24,25,26,27,28,29,30,31])
 (.seq
 (.region [
  ⟨(some 32),.mov (.t 0),none⟩,
  ⟨(some 33),.xop .nilck [(.t 32)],none⟩,
  ⟨(some 34),.fldaddr 1 1 (.t 33),none⟩,
  ⟨(some 35),.load false 1 (.t 34),none⟩,
  ⟨(some 36),.bin .add (.t 35) (.c (.int .i64 1)),none⟩,
  ⟨(some 37),.xop .nilck [(.t 32)],none⟩,
  ⟨(some 38),.fldaddr 1 1 (.t 37),none⟩,
  (oS 1 38 36)] [0,32,33,34,35,36,37,38])
 (.seq
 (.region [
  ⟨(some 39),.mov (.t 6),none⟩,
  ⟨(some 4),.mov (.t 39),none⟩,
  ⟨(some 5),.mov (.c (.bool true)),none⟩] [6,39])
 (.ret)))))
def zcK:List ARet:=[.tmp 4,.tmp 5]
theorem zjl:zT Tryz.prog zbS (qRo [])=some (zeZ.strip,zcK,40):=by kernel_rfl
def zd9:ACode :=
 .seq
 (.region [
  ⟨(some 1),.rbox (.t 0),none⟩,
  ⟨(some 2),.mknil 1,none⟩] [0,2])
 (.seq
 (.region [
  ⟨(some 4),.fldaddr 1 1 (.t 1),none⟩,
  ⟨(some 5),.load false 1 (.t 4),none⟩,
  ⟨(some 6),.fldaddr 1 1 (.t 1),none⟩,
  ⟨(some 7),.load false 1 (.t 6),none⟩,
  ⟨(some 8),.len (.t 7),none⟩,
  ⟨(some 9),.bin .sub (.t 8) (.c (.int .i64 1)),none⟩,
  ⟨(some 10),.idx 8 (.t 5) (.t 9),none⟩,
  ⟨(some 11),.load true 8 (.t 10),none⟩,
  ⟨(some 3),.alloc [.int .i64 0,.int .i64 0,.int .i64 0,.int .i64 0,.int .i64 0,.int .u32 0,.nilsl,.nilsl],none⟩,
  (oS 8 3 11)] [1,4,5,6,7,8,9,10,11])
 (.seq
 (.seq
 (.region [
  ⟨(some 12),.fldaddr 0 1 (.t 3),none⟩,
  ⟨(some 13),.load false 1 (.t 12),none⟩] [12])
 (.block 0
  (.seq
  (.region [
   ⟨(some 15),.bin .eql (.t 13) (.c (.int .i64 6)),none⟩,
   ⟨(some 14),.mov (.t 15),none⟩] [15])
  (.cond (
      .t 14)
   (.seq
   (.region [
    ⟨(some 16),.fldaddr 3 1 (.t 3),none⟩,
    ⟨(some 17),.load false 1 (.t 16),none⟩,
    ⟨(some 18),.buildSl 1 1 [.int .i64 0] [(0,(.t 17))],none⟩,
    ⟨(some 2),.mov (.t 18),none⟩] [3,13,14,16,17,18])
   (.ret))
   (.seq
   (.region [
    ⟨(some 20),.bin .eql (.t 13) (.c (.int .i64 7)),none⟩,
    ⟨(some 19),.mov (.t 20),none⟩] [14,20])
   (.cond (.t 19)
    (.seq
    (.region [
     ⟨(some 21),.fldaddr 3 1 (.t 3),none⟩,
     ⟨(some 22),.load false 1 (.t 21),none⟩,
     ⟨(some 23),.fldaddr 4 1 (.t 3),none⟩,
     ⟨(some 24),.load false 1 (.t 23),none⟩,
     ⟨(some 25),.buildSl 1 2 [.int .i64 0] [(0,(.t 22)),(1,(.t 24))],none⟩,
     ⟨(some 2),.mov (.t 25),none⟩] [3,13,19,21,22,23,24,25])
    (.ret))
    (.seq
    (.region [
     ⟨(some 27),.bin .eql (.t 13) (.c (.int .i64 8)),none⟩,
     ⟨(some 26),.mov (.t 27),none⟩] [13,19,27])
    (.cond (.t 26)
     (.seq
     (.region [
      ⟨(some 28),.fldaddr 7 1 (.t 3),none⟩,
      ⟨(some 29),.load false 1 (.t 28),none⟩,
      ⟨(some 2),.mov (.t 29),none⟩] [3,26,28,29])
     (.ret))
     (.skip)))))))))
 (.seq
 (.region [
  ⟨(some 2),.mknil 1,none⟩] [3,26])
 (.ret))))
def zaP:List ARet:=[.tmp 2]
theorem ziP:zT Tryz.prog zaB (qRo [1])=some (zd9.strip,zaP,30):=by kernel_rfl
def zkj:ACode :=
 .seq
 (.region [
  ⟨(some 3),.rbox (.t 0),none⟩,
  ⟨(some 6),.mknil 1,none⟩,
  ⟨(some 7),.mov (.c (.int .i64 0)),none⟩] [0,6,7])
 (.seq
 (.seq
 (.region [
  ⟨(some 9),.load true 2 (.t 3),none⟩,
  ⟨(some 10),.call zdS [(.t 9)],none⟩,
  ⟨(some 8),.mov (.t 10),none⟩] [9,10])
 (.seq
 (.region [
  ⟨(some 11),.mov (.t 8),none⟩,
  ⟨(some 12),.bin .neq (.t 11) (.c (.int .i64 0)),none⟩] [11])
 (.cond (.t 12)
  (.seq
  (.region [
   ⟨(some 13),.mov (.t 8),none⟩,
   ⟨(some 6),.mknil 1,none⟩,
   ⟨(some 7),.mov (.t 13),none⟩] [1,2,3,8,12,13])
  (.ret))
  (.skip))))
 (.seq
 (.seq
 (.region [
  ⟨(some 14),.mov (.t 2),none⟩,
  ⟨(some 15),.bin .gtr (.t 14) (.c (.int .i64 65536)),none⟩] [6,7,8,12,14])
 (.cond (.t 15)
  (.seq
  (.region [
   ⟨(some 6),.mknil 1,none⟩,
   ⟨(some 7),.mov (.c (.int .i64 6)),none⟩] [1,2,3,15])
  (.ret))
  (.skip)))
 (.seq
 (.region [
  ⟨(some 16),.load true 2 (.t 3),none⟩,
  ⟨(some 17),.mov (.t 1),none⟩,
  ⟨(some 18),.call zjg [(.t 16),(.t 17)],none⟩,
  ⟨(some 19),.mov (.t 2),none⟩,
  ⟨(some 20),.call zcS [(.t 18),(.t 19)],none⟩,
  ⟨(some 6),.mov (.t 20),none⟩,
  ⟨(some 7),.mov (.c (.int .i64 0)),none⟩] [1,2,3,15,16,17,18,19,20])
 (.ret))))
def zeL:List ARet:=[.tmp 6,.tmp 7]
theorem zoQ:zT Tryz.prog za8 (qRo [3])=some (zkj.strip,zeL,21):=by kernel_rfl
def cW (n:Int):List AV:=[.int .u32 n]
def zgi (cs:List Int) (j:Nat) (n:Int):Int × Bool:=if h:j < cs.length then (cs[j] % n,true) else (0,false)
def zkB (cs:List Int) (j:Nat):Nat:=if j < cs.length then j+1 else j
theorem zeX (cs:List Int) (j:Nat) (n:Int) (hj:j≤1000000) (hn:0 < n) (hn2:n≤1000000) (hw:∀c∈cs,0≤c∧c < 4294967296):z7 Tryz.prog zbS [.ptr 0 0 0 0 0,.int .i64 n] [(0,.row 2 [[encL 1 cW cs,.int .i64 j]] 0)] 1
  (fun v H nx=>v=.tup [.int .i64 (zgi cs j n).1,.bool (zgi cs j n).2]∧H=[(0,.row 2 [[encL 1 cW cs,.int .i64 (zkB cs j)]] 0)]∧nx=1):=by
 refine fn_x zjl rfl ?_;unfold zeZ zgi zkB;have hB:=hBig
 by_cases h:j < cs.length
 ·
  have hg:(cs.map cW).getD j []=[.int .u32 cs[j]]:=by simp[List.getD,h,cW]
  rw[dif_pos h,if_pos h]
  (repeat first|simp(disch:=try exact dis1) only[evD,Nat.reduceBEq,Nat.reduceAdd,Nat.reduceLeDiff,dT,dF,za,hg,zcK]|with_reducible first|intro _|refine aJ ?_)
  have hc:=hw _ (Wh h);have e1:IntKind.u64.wrap n=n:=IntWalk.u64_in n ⟨by omega,by omega⟩;have e2:IntKind.u64.wrap cs[j]=cs[j]:=IntWalk.u64_in _ ⟨hc.1,by omega⟩
  have e3:(cs[j]).tmod n=cs[j] % n:=by rw[Int.tmod_eq_emod_of_nonneg hc.1]
  have e4:=Int.emod_nonneg cs[j] (show n≠0 by omega);have e5:=Int.emod_lt_of_pos cs[j] hn;have e6:IntKind.i64.wrap (cs[j] % n)=cs[j] % n:=zld (by omega) (by omega);rw[e1,e2,e3,e6];exact⟨by omega,fun _=>⟨rfl,rfl⟩⟩
 ·
  rw[dif_neg h,if_neg h]
  (repeat first|simp(disch:=try exact dis1) only[evD,Nat.reduceBEq,Nat.reduceAdd,Nat.reduceLeDiff,dT,dF,za,zcK]|with_reducible first|intro _|refine aJ ?_)
end Go.Ab
namespace Go.Ab
open Go.RowKit Go.Proofs Go.Proofs.YtjcbhpmmngfmeaaGreat Go.ChangeShapes Go.WideShapes
theorem zzw {w:World} {L:Nat→Prop} {ι:Inj} {v:Value} {l:List Int} (h:VR w L ι v (encL 1 cW l)):∀c∈l,0≤c∧c < 4294967296:=by
 intro c hc;obtain⟨i,hi,rfl⟩:=Wo.1 hc;unfold encL at h;generalize hf:(fun i j=>((l.map cW).getD i []).getD j AV.undef)=f at h;generalize hn:l.length=n at h
 cases h with
 |
  sl _ a _ _ cap _ V h1 h2 h3 h4 h5 =>
  have h6:=h5 i 0 (by omega) (by decide);rw[←hf] at h6;simp only at h6;rw[zm (f:=cW) hi] at h6;generalize V i 0=vi at h6
  cases h6 with
  |
   int _ _ _ h7 =>
   have e1:IntKind.min .u32=0:=by decide
   have e2:IntKind.max .u32=4294967295:=by decide
   have h8:IntKind.min .u32≤l[i]:=h7.1;have h9:l[i]≤IntKind.max .u32:=h7.2;rw[e1] at h8;rw[e2] at h9;exact⟨h8,by omega⟩
 | sl0=>omega
theorem open_words {HH:Type} {enc:TypeId × Value→HH} {w:World} {base b2:Nat} {spare:Nat→Bool} {held:Bool} {L:Nat→Prop} (hL:∀b,¬L b)
  {v:Value} {d:DataW HH} {ps:List MemPlace} (hv:Value.okWide Tryz.prog w .any base 26 v) (h:DataW.Trod enc Tryz.prog w b2 spare held 26 v d ps):∃l:List Int,(∀c∈l,0≤c∧c < 4294967296)∧∀ι,VR w L ι v (encL 1 cW l):=by
 obtain⟨a0,len,cap,rfl⟩:=okWide_slice Tryz.underlying26 hv;obtain⟨fuel,hf⟩:=h;obtain⟨l,v2,h1,_,h3⟩:=zwp Tryz.underlying26 Tryz.underlying22 (by kernel_rfl) hL hf
 have:v2=.slice a0 len cap:=by simp[Value.cells] at h1;exact h1.symm
 subst this;exact⟨l,zzw (h3 noI),h3⟩
end Go.Ab
namespace Go.Ab
open Go.RowKit Go.Proofs
def zbQ:ACode:=.seq (.seq (.region [ (oM 111 12),(oM 112 10),(oE 113 112),(oB 114 .lss 111 113),(oM 115 114),(oG 116 115 true (.mov (.t 9))),(oG 117 115 true (.bin .add (.t 116) (.c (.int .i64 1)))),(oG 118 115 true (.mov (.t 7))),(oG 119 115 true (.len (.t 118))),(oG 120 115 true (.bin .lss (.t 117) (.t 119))),(oN 121 (.pick (.t 115) (.t 120) (.c (.bool false))))] [111,112,113,114,115,116,117,118,119,120]) (.cond (.t 121) (.skip) (.exit 2))) (.seq (.block 3 (.draw ( .step (oM 124 11) ( .step (oM 125 124) ( .step (oG 126 125 false (.mov (.t 10))) ( .step (oG 127 125 false (.mov (.t 12))) ( .step (oG 128 125 false (.idx 1 (.t 126) (.t 127))) ( .step (oG 129 125 false (.load false 1 (.t 128))) ( .step (oG 130 125 false (.mov (.t 7))) ( .step (oG 131 125 false (.mov (.t 9))) ( .step (oG 132 125 false (.bin .add (.t 131) (.c (.int .i64 1)))) ( .step (oG 133 125 false (.idx 1 (.t 130) (.t 132))) ( .step (oG 134 125 false (.load false 1 (.t 133))) ( .step (oG 135 125 false (.bin .eql (.t 129) (.t 134))) ( .step (oN 136 (.pick (.t 125) (.c (.bool true)) (.t 135))) ( .step (oM 11 136) ( .done))))))))))))))) [121,124,125,126,127,128,129,130,131,132,133,134,135,136])) (.region [ (oM 122 12),(oC 123 .add 122 1),(oM 12 123)] [122,123]))
def zaJ:ACode:=.seq (.region [ (oM 137 11),(oN 138 (.un .not (.t 137)))] [10,11,12,137]) (.cond (.t 138) (.seq (.region [ Yan] [2,3,7,9,138]) (.ret)) (.skip))
def zaI:ACode:=.region [ (oM 69 9),(oC 70 .add 69 1),(oM 9 70)] [6,69,70,138]
def zfG:ACode:=.seq (.seq (.region [ (oM 65 9),(oM 66 7),(oE 67 66),(oB 68 .lss 65 67)] [65,66,67]) (.cond (.t 68) (.skip) (.exit 0))) (.seq (.block 1 (.seq (.seq (.draw ( .step (oM 71 7) ( .step (oM 72 9) ( .step (oI 73 1 71 72) ( .step (oL 74 73) ( .step (oC 75 .lss 74 0) ( .step (oM 76 75) ( .step (oG 77 76 false (.mov (.t 7))) ( .step (oG 78 76 false (.mov (.t 9))) ( .step (oG 79 76 false (.idx 1 (.t 77) (.t 78))) ( .step (oG 80 76 false (.load false 1 (.t 79))) ( .step (oG 81 76 false (.fldaddr 1 1 (.t 3))) ( .step (oG 82 76 false (.load false 1 (.t 81))) ( .step (oG 83 76 false (.len (.t 82))) ( .step (oG 84 76 false (.bin .geq (.t 80) (.t 83))) ( .step (oN 85 (.pick (.t 76) (.c (.bool true)) (.t 84))) ( .done)))))))))))))))) [68,71,72,73,74,75,76,77,78,79,80,81,82,83,84]) (.cond (.t 85) (.seq (.region [ Yan] [2,3,7,9,85]) (.ret)) (.skip))) (.seq (.draw ( .step (oF 86 1 1 3) ( .step (oL 87 86) ( .step (oM 88 7) ( .step (oM 89 9) ( .step (oI 90 1 88 89) ( .step (oL 91 90) ( .step (oI 92 2 87 91) ( .step (oA 93 2 92) ( .step (oN 94 (.callq ze5 [(.t 93)])) ( .step (oM 10 94) ( .done))))))))))) [6,85,86,87,88,89,90,91,92,93,94]) (.seq (.region [ (oM 95 9),(oC 96 .add 95 1),(oM 97 7),(oE 98 97),(oB 99 .eql 96 98),(oM 100 99),(oG 101 100 true (.mov (.t 7))),(oG 102 100 true (.len (.t 101))),(oG 103 100 true (.mov (.t 2))),(oG 104 100 true (.bin .eql (.t 102) (.t 103))),(oG 105 100 true (.mov (.t 104))),(oG 106 105 false (.mov (.t 10))),(oG 107 105 false (.len (.t 106))),(oG 108 105 false (.bin .eql (.t 107) (.c (.int .i64 0)))),(oG 109 100 true (.pick (.t 105) (.c (.bool true)) (.t 108))),(oN 110 (.pick (.t 100) (.t 109) (.c (.bool false)))),(oM 11 110)] [95,96,97,98,99,100,101,102,103,104,105,106,107,108,109,110]) (.seq (.seq (.region [ (oK 12 0)] []) (.block 2 (.loop zbQ))) (zaJ)))))) (zaI))
def zfK:ACode:=.seq (.region [ (oN 139 (.call zbI [])),(oM 6 139)] [2,3,7,9,139]) (.ret)
def zhC:ACode:=.seq (.region [ (oN 3 (.rbox (.t 0))),Yan] [0,6]) (.seq (.seq (.region [ (oA 13 2 3),(oM 14 1),(oM 15 2),(oN 16 (.call zkR [(.t 13),(.t 14),(.t 15)])),(oN 17 (.un .not (.t 16)))] [13,14,15,16]) (.cond (.t 17) (.seq (.region [ (oN 18 (.call zbI [])),(oM 6 18)] [1,2,3,17,18]) (.ret)) (.skip))) (.seq (.region [ (oA 20 2 3),(oM 21 1),(oM 22 2),(oN 23 (.call za8 [(.t 20),(.t 21),(.t 22)])),(oM 19 23),(oT 24 0 19),(oT 25 1 19),(oM 7 24),(oM 8 25)] [1,6,17,19,20,21,22,23,24,25]) (.seq (.seq (.region [ (oM 26 8),(oC 27 .neq 26 0)] [26]) (.cond (.t 27) (.seq (.region [ (oM 28 7),(oE 29 28),(oC 30 .eql 29 0),(oM 31 30),(oG 32 31 true (.mov (.t 8))),(oG 33 31 true (.load true 2 (.t 3))),(oG 34 31 true (.call ze6 [(.t 33)])),(oG 35 31 true (.bin .eql (.t 32) (.t 34))),(oN 36 (.pick (.t 31) (.t 35) (.c (.bool false)))),(oM 37 36),(oG 38 37 true (.call zbI [])),(oN 39 (.pick (.t 37) (.t 38) (.c (.bool false)))),(oM 6 39)] [2,3,7,8,27,28,29,30,31,32,33,34,35,36,37,38,39]) (.ret)) (.skip))) (.seq (.seq (.region [ (oM 40 7),(oE 41 40),(oM 42 2),(oN 43 (.xop .max [(.t 42),(.c (.int .i64 0))])),(oB 44 .gtr 41 43),(oM 45 44),(oG 46 45 false (.mov (.t 7))),(oG 47 45 false (.len (.t 46))),(oG 48 45 false (.bin .gtr (.t 47) (.c (.int .i64 0)))),(oG 49 45 false (.mov (.t 48))),(oG 50 49 true (.mov (.t 7))),(oG 51 49 true (.idx 1 (.t 50) (.c (.int .i64 0)))),(oG 52 49 true (.load false 1 (.t 51))),(oG 53 49 true (.bin .neq (.t 52) (.c (.int .i64 0)))),(oG 54 45 false (.pick (.t 49) (.t 53) (.c (.bool false)))),(oN 55 (.pick (.t 45) (.c (.bool true)) (.t 54))),(oM 56 55),(oG 57 56 false (.mov (.t 7))),(oG 58 56 false (.len (.t 57))),(oG 59 56 false (.bin .eql (.t 58) (.c (.int .i64 0)))),(oG 60 56 false (.mov (.t 59))),(oG 61 60 true (.mov (.t 2))),(oG 62 60 true (.bin .gtr (.t 61) (.c (.int .i64 0)))),(oG 63 56 false (.pick (.t 60) (.t 62) (.c (.bool false)))),(oN 64 (.pick (.t 56) (.c (.bool true)) (.t 63)))] [6,8,27,40,41,42,43,44,45,46,47,48,49,50,51,52,53,54,55,56,57,58,59,60,61,62,63]) (.cond (.t 64) (.seq (.region [ Yan] [2,3,7,64]) (.ret)) (.skip))) (.seq (.seq (.region [ (oK 9 0)] [6,64]) (.block 0 (.loop zfG))) (zfK))))))
def zcM:List ARet:=[.tmp 6]
theorem zl2:zT Tryz.prog zir (qRo [3])=some (zhC.strip,zcM,140):=by kernel_rfl
def zhR:ACode:=.seq (.region [ Yaa,Yah] [0,2]) (.seq (.seq (.region [ (oF 3 1 1 1),(oL 4 3),(oE 5 4),(oC 6 .eql 5 0)] [3,4,5]) (.cond (.t 6) (.seq (.region [ Yah] [1,6]) (.ret)) (.skip))) (.seq (.region [ (oF 7 1 1 1),(oL 8 7),(oF 9 1 1 1),(oL 10 9),(oE 11 10),(oC 12 .sub 11 1),(oI 13 8 8 12),(oA 14 8 13),(oN 15 (.call zfT [(.t 14)])),(oM 2 15)] [1,6,7,8,9,10,11,12,13,14,15]) (.ret)))
def zeI:List ARet:=[.tmp 2]
theorem zmj:zT Tryz.prog ze5 (qRo [1])=some (zhR.strip,zeI,16):=by kernel_rfl
def zgB:ACode:=.seq (.region [ (oN 0 (.mov (.c (.bool false))))] [0]) (.seq (.region [ (oN 18 (.call zg1 [(.c (.int .i64 1)),(.c (.int .i64 2))])),(oN 19 (.call zcD [(.t 18)])),(oN 20 (.build [.int .i64 0,.int .i64 0,.int .i64 0,.int .i64 0,.int .i64 0,.int .u32 0,.nilsl,.nilsl] [(0,1,(.c (.int .i64 6))),(3,1,(.c (.int .i64 3)))])),(oN 21 (.call zcD [(.t 20)])),(oN 22 (.build [.int .i64 0,.int .i64 0,.int .i64 0,.int .i64 0,.int .i64 0,.int .u32 0,.nilsl,.nilsl] [(0,1,(.c (.int .i64 6))),(3,1,(.c (.int .i64 3)))])),(oN 23 (.call zcD [(.t 22)])),(oN 24 (.build [.int .i64 0,.int .i64 0,.int .i64 0,.int .i64 0,.int .i64 0,.int .u32 0,.nilsl,.nilsl] [(0,1,(.c (.int .i64 9)))])),(oN 25 (.call zcD [(.t 24)])),(oN 26 (.rbuildSl 2 4 [.int .u32 0,.nilsl] [(0,(.t 19)),(1,(.t 21)),(2,(.t 23)),(3,(.t 25))])),(oN 27 (.build [.int .u32 0,.nilsl] [(1,1,(.t 26))])),(oN 1 (.alloc [.int .u32 0,.nilsl])),(oS 2 1 27)] [18,19,20,21,22,23,24,25,26,27]) (.seq (.region [ (oN 28 (.build [.int .i64 0,.int .i64 0,.int .i64 0,.int .i64 0,.int .i64 0,.int .u32 0,.nilsl,.nilsl] [(0,1,(.c (.int .i64 6))),(3,1,(.c (.int .i64 1)))])),(oN 29 (.call zcD [(.t 28)])),(oN 30 (.call zg1 [(.c (.int .i64 2)),(.c (.int .i64 3))])),(oN 31 (.call zcD [(.t 30)])),(oN 32 (.build [.int .i64 0,.int .i64 0,.int .i64 0,.int .i64 0,.int .i64 0,.int .u32 0,.nilsl,.nilsl] [(0,1,(.c (.int .i64 6))),(3,1,(.c (.int .i64 1)))])),(oN 33 (.call zcD [(.t 32)])),(oN 34 (.build [.int .i64 0,.int .i64 0,.int .i64 0,.int .i64 0,.int .i64 0,.int .u32 0,.nilsl,.nilsl] [(0,1,(.c (.int .i64 10)))])),(oN 35 (.call zcD [(.t 34)])),(oN 36 (.rbuildSl 2 4 [.int .u32 0,.nilsl] [(0,(.t 29)),(1,(.t 31)),(2,(.t 33)),(3,(.t 35))])),(oN 37 (.build [.int .u32 0,.nilsl] [(1,1,(.t 36))])),(oN 2 (.alloc [.int .u32 0,.nilsl])),(oS 2 2 37)] [28,29,30,31,32,33,34,35,36,37]) (.seq (.region [ (oA 39 2 1),(oN 40 (.call za8 [(.t 39),(.c (.nilsl)),(.c (.int .i64 9))])),(oM 38 40),(oT 41 0 38),(oT 42 1 38),(oM 3 41),(oM 4 42)] [38,39,40,41,42]) (.seq (.region [ (oA 44 2 1),(oN 45 (.rbuildSl 1 1 [.int .u32 0] [(0,(.c (.int .u32 3)))])),(oN 46 (.call za8 [(.t 44),(.t 45),(.c (.int .i64 9))])),(oM 43 46),(oT 47 0 43),(oT 48 1 43),(oM 5 47),(oM 6 48)] [6,43,44,45,46,47,48]) (.seq (.region [ (oA 50 2 1),(oN 51 (.call za8 [(.t 50),(.c (.nilsl)),(.c (.int .i64 2))])),(oM 49 51),(oT 52 0 49),(oT 53 1 49),(oM 7 52),(oM 8 53)] [8,49,50,51,52,53]) (.seq (.region [ (oA 55 2 2),(oN 56 (.rbuildSl 1 3 [.int .u32 0] [(0,(.c (.int .u32 0))),(1,(.c (.int .u32 0))),(2,(.c (.int .u32 1)))])),(oN 57 (.call za8 [(.t 55),(.t 56),(.c (.int .i64 20))])),(oM 54 57),(oT 58 0 54),(oT 59 1 54),(oM 9 58),(oM 10 59)] [2,54,55,56,57,58,59]) (.seq (.region [ (oA 60 2 1),(oN 61 (.call zfV [(.t 60),(.c (.int .i64 9))])),(oM 11 61)] [1,60,61]) (.seq (.region [ (oN 62 (.build [.int .i64 0,.int .i64 0,.int .i64 0,.int .i64 0,.int .i64 0,.int .u32 0,.nilsl,.nilsl] [(0,1,(.c (.int .i64 10)))])),(oN 63 (.call zcD [(.t 62)])),(oN 64 (.rbuildSl 2 1 [.int .u32 0,.nilsl] [(0,(.t 63))])),(oN 65 (.build [.int .u32 0,.nilsl] [(1,1,(.t 64))])),(oN 12 (.alloc [.int .u32 0,.nilsl])),(oS 2 12 65)] [62,63,64,65]) (.seq (.region [ (oN 66 (.build [.int .i64 0,.int .i64 0,.int .i64 0,.nilsl,.nilsl] [(0,1,(.c (.int .i64 1)))])),(oN 67 (.rbuildSl 5 1 [.int .i64 0,.int .i64 0,.int .i64 0,.nilsl,.nilsl] [(0,(.t 66))])),(oN 68 (.build [.int .i64 0,.int .i64 0,.int .i64 0,.nilsl,.nilsl] [(0,1,(.c (.int .i64 4))),(4,1,(.t 67))])),(oN 69 (.build [.int .i64 0,.int .i64 0,.int .i64 0,.nilsl,.nilsl] [(0,1,(.c (.int .i64 2)))])),(oN 70 (.rbuildSl 5 2 [.int .i64 0,.int .i64 0,.int .i64 0,.nilsl,.nilsl] [(0,(.t 68)),(1,(.t 69))])),(oN 71 (.build [.int .i64 0,.int .i64 0,.int .i64 0,.nilsl,.nilsl] [(0,1,(.c (.int .i64 1))),(4,1,(.t 70))])),(oN 13 (.alloc [.int .i64 0,.int .i64 0,.int .i64 0,.nilsl,.nilsl])),(oS 5 13 71)] [66,67,68,69,70,71]) (.seq (.region [ (oA 73 5 13),(oA 74 2 12),(oN 75 (.call ze0 [(.t 73),(.t 74),(.c (.nilsl)),(.c (.int .i64 5))])),(oM 72 75),(oT 76 0 72),(oT 77 1 72),(oM 14 76),(oM 15 77)] [13,14,72,73,74,75,76,77]) (.seq (.region [ (oN 79 (.build [.int .i64 0,.int .i64 0,.int .i64 0,.nilsl,.nilsl] [(0,1,(.c (.int .i64 2)))])),(oA 80 2 12),(oN 81 (.call ze0 [(.t 79),(.t 80),(.c (.nilsl)),(.c (.int .i64 5))])),(oM 78 81),(oT 82 0 78),(oT 83 1 78),(oM 16 82),(oM 17 83)] [12,78,79,80,81,82,83]) (.seq (.region [ (oM 84 4),(oC 85 .eql 84 0),(oM 86 85),(oG 87 86 true (.mov (.t 3))),(oG 88 86 true (.rbuildSl 1 3 [.int .i64 0] [(0,(.c (.int .i64 0))),(1,(.c (.int .i64 1))),(2,(.c (.int .i64 3)))])),(oG 89 86 true (.call zbc [(.t 87),(.t 88)])),(oN 90 (.pick (.t 86) (.t 89) (.c (.bool false)))),(oM 91 90),(oG 92 91 true (.mov (.t 5))),(oG 93 91 true (.rbuildSl 1 3 [.int .i64 0] [(0,(.c (.int .i64 0))),(1,(.c (.int .i64 2))),(2,(.c (.int .i64 3)))])),(oG 94 91 true (.call zbc [(.t 92),(.t 93)])),(oN 95 (.pick (.t 91) (.t 94) (.c (.bool false)))),(oM 96 95),(oG 97 96 true (.mov (.t 7))),(oG 98 96 true (.rbuildSl 1 2 [.int .i64 0] [(0,(.c (.int .i64 0))),(1,(.c (.int .i64 1)))])),(oG 99 96 true (.call zbc [(.t 97),(.t 98)])),(oN 100 (.pick (.t 96) (.t 99) (.c (.bool false)))),(oM 101 100),(oG 102 101 true (.mov (.t 10))),(oG 103 101 true (.bin .eql (.t 102) (.c (.int .i64 0)))),(oN 104 (.pick (.t 101) (.t 103) (.c (.bool false)))),(oM 105 104),(oG 106 105 true (.mov (.t 9))),(oG 107 105 true (.rbuildSl 1 7 [.int .i64 0] [(0,(.c (.int .i64 0))),(1,(.c (.int .i64 1))),(2,(.c (.int .i64 2))),(3,(.c (.int .i64 1))),(4,(.c (.int .i64 2))),(5,(.c (.int .i64 1))),(6,(.c (.int .i64 3)))])),(oG 108 105 true (.call zbc [(.t 106),(.t 107)])),(oN 109 (.pick (.t 105) (.t 108) (.c (.bool false)))),(oM 110 109),(oG 111 110 true (.mov (.t 11))),(oG 112 110 true (.len (.t 111))),(oG 113 110 true (.bin .eql (.t 112) (.c (.int .i64 2)))),(oN 114 (.pick (.t 110) (.t 113) (.c (.bool false)))),(oM 115 114),(oG 116 115 true (.mov (.t 11))),(oG 117 115 true (.idx 1 (.t 116) (.c (.int .i64 1)))),(oG 118 115 true (.load false 1 (.t 117))),(oG 119 115 true (.rbuildSl 1 3 [.int .i64 0] [(0,(.c (.int .i64 0))),(1,(.c (.int .i64 2))),(2,(.c (.int .i64 3)))])),(oG 120 115 true (.call zbc [(.t 118),(.t 119)])),(oN 121 (.pick (.t 115) (.t 120) (.c (.bool false)))),(oM 122 121),(oG 123 122 true (.mov (.t 15))),(oG 124 122 true (.bin .eql (.t 123) (.c (.int .i64 15)))),(oN 125 (.pick (.t 122) (.t 124) (.c (.bool false)))),(oM 126 125),(oG 127 126 true (.mov (.t 17))),(oG 128 126 true (.bin .eql (.t 127) (.c (.int .i64 0)))),(oN 129 (.pick (.t 126) (.t 128) (.c (.bool false)))),(oM 130 129),(oG 131 130 true (.mov (.t 16))),(oG 132 130 true (.rbuildSl 1 1 [.int .i64 0] [(0,(.c (.int .i64 0)))])),(oG 133 130 true (.call zbc [(.t 131),(.t 132)])),(oN 134 (.pick (.t 130) (.t 133) (.c (.bool false)))),(oM 0 134)] [3,4,5,7,9,10,11,15,16,17,84,85,86,87,88,89,90,91,92,93,94,95,96,97,98,99,100,101,102,103,104,105,106,107,108,109,110,111,112,113,114,115,116,117,118,119,120,121,122,123,124,125,126,127,128,129,130,131,132,133,134]) (.ret)))))))))))))
def zaw:List ARet:=[.tmp 0]
theorem zkQ:zT Tryz.prog zbI (qRo [26,36,45,56,64,67,70,88,93,98,107,119,132])=some (zgB.strip,zaw,135):=by kernel_rfl
def zph:ACode:=.seq (.region [ Yaa,(oN 2 (.alloc [.int .u32 0,.nilsl]))] [0]) (.seq (.region [ (oA 3 8 1),(oN 4 (.rbuildSl 8 1 [.int .i64 0,.int .i64 0,.int .i64 0,.int .i64 0,.int .i64 0,.int .u32 0,.nilsl,.nilsl] [(0,(.t 3))])),(oN 5 (.build [.int .u32 0,.nilsl] [(1,1,(.t 4))])),(oS 2 2 5)] [1,3,4,5]) (.ret))
def zpL:List ARet:=[.cell 2 true 2]
theorem zvQ:zT Tryz.prog zcD (qRo [1,4])=some (zph.strip,zpL,6):=by kernel_rfl
def zk1:ACode:=.seq (.region [ (oN 4 (.alloc [.int .i64 0,.int .i64 0,.int .i64 0,.int .i64 0,.int .i64 0,.int .u32 0,.nilsl,.nilsl]))] []) (.seq (.region [ (oN 5 (.build [.int .i64 0,.int .u32 0,.int .i64 0,.int .i64 0,.nilsl] [(0,1,(.c (.int .i64 2)))])),(oN 6 (.rbuildSl 5 1 [.int .i64 0,.int .u32 0,.int .i64 0,.int .i64 0,.nilsl] [(0,(.t 5))])),(oM 7 0),(oM 8 1),(oN 9 (.build [.int .i64 0,.int .i64 0,.int .i64 0,.int .i64 0,.int .i64 0,.int .u32 0,.nilsl,.nilsl] [(0,1,(.c (.int .i64 7))),(6,1,(.t 6)),(3,1,(.t 7)),(4,1,(.t 8))])),(oS 8 4 9)] [0,1,5,6,7,8,9]) (.ret))
def zlr:List ARet:=[.cell 4 true 8]
theorem zp3:zT Tryz.prog zg1 (qRo [6])=some (zk1.strip,zlr,10):=by kernel_rfl
def zmv:ACode:=.seq (.region [ (oN 3 (.rbox (.t 0))),Yan] [0,6]) (.seq (.region [ (oF 7 1 1 3),(oL 8 7),(oE 9 8),(oC 10 .leq 9 20),(oM 11 10),(oG 12 11 true (.load true 2 (.t 3))),(oG 13 11 true (.call zfe [(.t 12),(.c (.int .i64 8))])),(oN 14 (.pick (.t 11) (.t 13) (.c (.bool false)))),(oM 15 14),(oG 16 15 true (.mov (.t 1))),(oG 17 15 true (.len (.t 16))),(oG 18 15 true (.bin .leq (.t 17) (.c (.int .i64 40)))),(oN 19 (.pick (.t 15) (.t 18) (.c (.bool false)))),(oM 20 19),(oG 21 20 true (.mov (.t 2))),(oG 22 20 true (.bin .leq (.t 21) (.c (.int .i64 60)))),(oN 23 (.pick (.t 20) (.t 22) (.c (.bool false)))),(oM 6 23)] [1,2,3,7,8,9,10,11,12,13,14,15,16,17,18,19,20,21,22,23]) (.ret))
def zeY:List ARet:=[.tmp 6]
theorem zrw:zT Tryz.prog zkR (qRo [3])=some (zmv.strip,zeY,24):=by kernel_rfl
def zff:ACode:=.seq (.seq (.region [ (oM 59 9),(oF 60 6 1 8),(oL 61 60),(oE 62 61),(oB 63 .lss 59 62)] [59,60,61,62]) (.cond (.t 63) (.skip) (.exit 4))) (.seq (.block 5 (.seq (.region [ (oF 66 6 1 8),(oL 67 66),(oM 68 9),(oI 69 5 67 68),(oA 70 5 69),(oM 71 1),(oM 72 5),(oN 73 (.call zh8 [(.t 70),(.t 71),(.t 72)])),(oM 5 73)] [63,66,67,68,69,70,71,72,73]) (.seq (.region [ (oM 74 5),(oC 75 .lss 74 0)] [74]) (.cond (.t 75) (.seq (.region [ Yab] [1,2,5,6,7,8,9,75]) (.ret)) (.skip))))) (.region [ (oM 64 9),(oC 65 .add 64 1),(oM 9 65)] [4,64,65,75]))
def zft:ACode:=.region [ (oM 38 7),(oC 39 .add 38 1),(oM 7 39)] [8,9,38,39]
def zfB:ACode:=.seq (.seq (.region [ (oM 29 7),(oF 30 1 1 2),(oL 31 30),(oM 32 6),(oI 33 2 31 32),(oF 34 1 1 33),(oL 35 34),(oE 36 35),(oB 37 .lss 29 36)] [29,30,31,32,33,34,35,36]) (.cond (.t 37) (.skip) (.exit 2))) (.seq (.block 3 (.seq (.region [ (oF 40 1 1 2),(oL 41 40),(oM 42 6),(oI 43 2 41 42),(oF 44 1 1 43),(oL 45 44),(oM 46 7),(oI 47 8 45 46),(oA 48 8 47),(oN 8 (.alloc [.int .i64 0,.int .i64 0,.int .i64 0,.int .i64 0,.int .i64 0,.int .u32 0,.nilsl,.nilsl])),(oS 8 8 48)] [37,40,41,42,43,44,45,46,47,48]) (.seq (.seq (.region [ (oF 49 6 1 8),(oL 50 49),(oE 51 50),(oC 52 .gtr 51 4),(oM 53 52),(oG 54 53 false (.fldaddr 7 1 (.t 8))),(oG 55 53 false (.load false 1 (.t 54))),(oG 56 53 false (.len (.t 55))),(oG 57 53 false (.bin .gtr (.t 56) (.c (.int .i64 100)))),(oN 58 (.pick (.t 53) (.c (.bool true)) (.t 57)))] [49,50,51,52,53,54,55,56,57]) (.cond (.t 58) (.seq (.region [ Yab] [1,2,5,6,7,8,58]) (.ret)) (.skip))) (.seq (.region [ (oK 9 0)] [4,58]) (.block 4 (.loop zff)))))) (zft))
def zfr:ACode:=.region [ (oM 19 6),(oC 20 .add 19 1),(oM 6 20)] [7,19,20]
def zfk:ACode:=.seq (.seq (.region [ (oM 14 6),(oF 15 1 1 2),(oL 16 15),(oE 17 16),(oB 18 .lss 14 17)] [14,15,16,17]) (.cond (.t 18) (.skip) (.exit 0))) (.seq (.block 1 (.seq (.seq (.region [ (oF 21 1 1 2),(oL 22 21),(oM 23 6),(oI 24 2 22 23),(oF 25 1 1 24),(oL 26 25),(oE 27 26),(oC 28 .gtr 27 1100)] [18,21,22,23,24,25,26,27]) (.cond (.t 28) (.seq (.region [ Yab] [1,2,5,6,28]) (.ret)) (.skip))) (.seq (.region [ (oK 7 0)] [4,28]) (.block 2 (.loop zfB))))) (zfr))
def zfo:ACode:=.seq (.region [ Yao] [1,2,5,6]) (.ret)
def zhw:ACode:=.seq (.region [ Yaj,Yab] [0,4]) (.seq (.region [ (oK 5 20000)] []) (.seq (.seq (.region [ (oF 10 1 1 2),(oL 11 10),(oE 12 11),(oC 13 .gtr 12 300)] [10,11,12]) (.cond (.t 13) (.seq (.region [ Yab] [1,2,5,13]) (.ret)) (.skip))) (.seq (.seq (.region [ (oK 6 0)] [4,13]) (.block 0 (.loop zfk))) (zfo))))
def zaV:List ARet:=[.tmp 4]
theorem zlV:zT Tryz.prog zfe (qRo [2])=some (zhw.strip,zaV,76):=by kernel_rfl
def zgR:ACode:=.seq (.seq (.region [ (oM 11 5),(oM 12 0),(oE 13 12),(oB 14 .lss 11 13)] [11,12,13]) (.cond (.t 14) (.skip) (.exit 0))) (.seq (.block 1 (.seq (.draw ( .step (oM 17 0) ( .step (oM 18 5) ( .step (oI 19 1 17 18) ( .step (oL 20 19) ( .step (oM 21 1) ( .step (oM 22 5) ( .step (oI 23 1 21 22) ( .step (oL 24 23) ( .step (oB 25 .neq 20 24) ( .done)))))))))) [14,17,18,19,20,21,22,23,24]) (.cond (.t 25) (.seq (.region [ Yab] [0,1,5,25]) (.ret)) (.skip)))) (.region [ (oM 15 5),(oC 16 .add 15 1),(oM 5 16)] [4,15,16,25]))
def zgM:ACode:=.seq (.region [ Yao] [0,1,5]) (.ret)
def ziX:ACode:=.seq (.region [ Yab] [4]) (.seq (.seq (.region [ (oM 6 0),(oE 7 6),(oM 8 1),(oE 9 8),(oB 10 .neq 7 9)] [6,7,8,9]) (.cond (.t 10) (.seq (.region [ Yab] [0,1,10]) (.ret)) (.skip))) (.seq (.seq (.region [ (oK 5 0)] [4,10]) (.block 0 (.loop zgR))) (zgM)))
def zdJ:List ARet:=[.tmp 4]
theorem znp:zT Tryz.prog zbc (qRo [])=some (ziX.strip,zdJ,26):=by kernel_rfl
def zgU:List St→Bool
 | []=>true
 | x::l=>(zlK x == l.isEmpty)&&zgU l
def inN (n:Int) (t:Int):Bool:=decide (0≤t∧t < n)
def zx (l:List St):List Int:=match l.getLast? with
 | none=>[]
 | some s=>zg0 s
def zdq (l:List St) (n:Int):Bool := !l.isEmpty&&(zgU l&&(zx l).all (inN n))
theorem ztJ {l:List St} {i:Nat} (h:i < l.length):zgU (l.drop i)=((zlK l[i] == decide ((i:Int)=(l.length:Int) - 1))&&zgU (l.drop (i+1))):=by
 rw[Wf h,zgU]
 congr 2
 by_cases hi:i+1 < l.length
 · rw[Wf hi,decide_eq_false (by omega)];rfl
 · rw[Wd (by omega),decide_eq_true (by omega)];rfl
theorem zzf {l:List Int} {i:Nat} {p:Int→Bool} (h:i < l.length):(l.drop i).all p=(p l[i]&&(l.drop (i+1)).all p):=by rw[Wf h,Wj]
theorem zga {l:List St} (h:l.length - 1 < l.length):zx l=zg0 l[l.length - 1]:=by unfold zx;rw[List.getLast?_eq_getElem?,Wi h]
theorem znC (b:Bl) (n:Int):zl Tryz.prog zhf [.agg b.cells,.int .i64 n] (·=.bool (zdq b.stmts n)):=by
 refine fn_x znd rfl ?_;unfold zi5;have hB:=hBig;obtain⟨ad,l⟩:=b;simp only[Bl.cells,zdq]
 by_cases h0:l.length=0
 ·
  obtain rfl:l=[]:=Wk h0
  (repeat first|simp(disch:=try exact dis1) only[evD,Nat.reduceBEq,Nat.reduceAdd,Nat.reduceLeDiff,fldP,dT,We,zby]|with_reducible first|intro _|refine aJ ?_)
  exact⟨_,.bool _ _,rfl⟩
 have he:l.isEmpty=false:=by cases l with|nil=>simp at h0|cons a l=>rfl
 rw[he]
 (refine Qi ?_;intros)
 refine zk (fun i:Nat=>([(1,.int .i64 n),(2,encP 2 [.int .u32 ad,encL 8 St.cells l]),(5,.int .i64 i)],[])) 0 (fun i=>i≤l.length∧zgU (l.drop i)=zgU l) (fun i=>l.length - i) 0 ⟨Wa _,rfl⟩ (Ent.keep rfl fin5) ?_;rintro i ⟨hi,hgo⟩ wf;unfold zg3
 by_cases hl:i < l.length
 ·
  rw[ztJ hl] at hgo
  (repeat first|simp(disch:=try exact dis1) only[evD,Nat.reduceBEq,Nat.reduceAdd,Nat.reduceLeDiff,fldP,dT,zm hl,St.len,St.eight]|with_reducible first|intro _|refine aJ ?_)
  refine zbT (zg (ztt l[i]) rfl) ?_;generalize zlK l[i]=q at hgo
  by_cases hx:(i:Int)=(l.length:Int) - 1
  ·
   rw[decide_eq_true hx] at hgo
   cases q with
   |
    true =>
    (repeat first|simp(disch:=try exact dis1) only[evD,Nat.reduceBEq,Nat.reduceAdd,Nat.reduceLeDiff,fldP,dT]|with_reducible first|intro _|refine aJ ?_)
    exact⟨i+1,⟨by omega,by simpa using hgo⟩,by omega,Ent.keep rfl fin5⟩
   |
    false =>
    replace hgo:zgU l=false:=by rw[←hgo];rfl
    rw[hgo]
    (repeat first|simp(disch:=try exact dis1) only[evD,Nat.reduceBEq,Nat.reduceAdd,Nat.reduceLeDiff,fldP,dT,zby]|with_reducible first|intro _|refine aJ ?_)
    exact⟨_,.bool _ _,rfl⟩
  ·
   rw[decide_eq_false hx] at hgo
   cases q with
   |
    false =>
    (refine Qi ?_;intros)
    exact⟨i+1,⟨by omega,by simpa using hgo⟩,by omega,Ent.keep rfl fin5⟩
   |
    true =>
    replace hgo:zgU l=false:=by rw[←hgo];rfl
    rw[hgo]
    (repeat first|simp(disch:=try exact dis1) only[evD,Nat.reduceBEq,Nat.reduceAdd,Nat.reduceLeDiff,fldP,dF,zby]|with_reducible first|intro _|refine aJ ?_)
    exact⟨_,.bool _ _,rfl⟩
 rw[Wd (by omega),zgU] at hgo;rw[←hgo]
 have hlast:l.length - 1 < l.length:=by omega
 have hidx:(((l.length:Nat):Int) - 1).toNat=l.length - 1:=by omega
 rw[zga hlast]
 (refine Qi ?_;intros)
 unfold zhd
 (repeat first|simp(disch:=try exact dis1) only[evD,Nat.reduceBEq,Nat.reduceAdd,Nat.reduceLeDiff,fldP,dT,hidx,zm hlast,St.len,St.eight]|with_reducible first|intro _|refine aJ ?_)
 refine zc (zg (zj5 l[l.length - 1]) rfl) ?_;generalize zg0 l[l.length - 1]=t;generalize hR:t.all (inN n)=R
 (refine Qa ?_;intros)
 refine zk (fun i:Nat=>([(1,.int .i64 n),(6,za t),(7,.int .i64 i)],[])) 0 (fun i=>i≤t.length∧(t.drop i).all (inN n)=R) (fun i=>t.length - i) 0 ⟨Wa _,hR⟩ (Ent.keep rfl fin5) ?_;rintro i ⟨hi,hgo⟩ wf;unfold zg2
 by_cases hl:i < t.length
 ·
  rw[zzf hl] at hgo;unfold inN at hgo
  by_cases q0:0≤t[i]
  ·
   by_cases q1:t[i] < n
   ·
    rw[decide_eq_true ⟨q0,q1⟩,Bool.true_and] at hgo
    (repeat first|simp(disch:=try exact dis1) only[evD,Nat.reduceBEq,Nat.reduceAdd,Nat.reduceLeDiff,fldP,dT,dF,za,zm hl]|with_reducible first|intro _|refine aJ ?_)
    exact⟨i+1,⟨by omega,hgo⟩,by omega,Ent.keep rfl fin5⟩
   ·
    rw[decide_eq_false (fun h=>q1 h.2),Wp] at hgo;subst hgo
    (repeat first|simp(disch:=try exact dis1) only[evD,Nat.reduceBEq,Nat.reduceAdd,Nat.reduceLeDiff,fldP,dT,dF,za,zm hl,zby]|with_reducible first|intro _|refine aJ ?_)
    exact⟨_,.bool _ _,rfl⟩
  ·
   rw[decide_eq_false (fun h=>q0 h.1),Wp] at hgo;subst hgo
   (repeat first|simp(disch:=try exact dis1) only[evD,Nat.reduceBEq,Nat.reduceAdd,Nat.reduceLeDiff,fldP,dT,dF,za,zm hl,zby]|with_reducible first|intro _|refine aJ ?_)
   exact⟨_,.bool _ _,rfl⟩
 ·
  rw[Wd (by omega)] at hgo
  replace hgo:R=true:=by rw[←hgo];rfl
  subst hgo
  (refine QN ?_;intros)
  unfold zha
  (repeat first|simp(disch:=try exact dis1) only[evD,Nat.reduceBEq,Nat.reduceAdd,Nat.reduceLeDiff,zby]|with_reducible first|intro _|refine aJ ?_)
  exact⟨_,.bool _ _,rfl⟩
def zgN:List St→Int
 | []=>0
 | s::l=>if s.check≠0 then s.check else zgN l
def zi0:List Bl→Int
 | []=>0
 | b::l=>if zgN b.stmts≠0 then zgN b.stmts else zi0 l
def zmC (g:G):Int:=if (!g.blocks.isEmpty&&g.blocks.all fun b=>zdq b.stmts g.blocks.length)=true then zi0 g.blocks else 18
theorem znX {l:List St} {i:Nat} (h:i < l.length):zgN (l.drop i)=if l[i].check≠0 then l[i].check else zgN (l.drop (i+1)):=by rw[Wf h,zgN]
theorem znr {l:List Bl} {i:Nat} (h:i < l.length):zi0 (l.drop i)=if zgN l[i].stmts≠0 then zgN l[i].stmts else zi0 (l.drop (i+1)):=by rw[Wf h,zi0]
structure fewB (g:G):Prop where
 blocks:g.blocks.length≤12
 stmts:∀b∈g.blocks,b.stmts.length≤8
def cntB (l:List Bl):Nat:=(l.map fun b=>b.stmts.length).sum
theorem zrb {l:List Bl} {i:Nat} (h:i < l.length):cntB (l.take (i+1))=cntB (l.take i)+l[i].stmts.length:=by rw[List.take_succ_eq_append_getElem h];unfold cntB;rw[List.map_append,List.sum_append];simp only[List.map_cons,List.map_nil,List.sum_cons,List.sum_nil,Nat.add_zero]
def zbz (g:G):Int:=if 256 < g.blocks.length∨1024 < cntB g.blocks then 6 else zmC g
structure manyB (g:G):Prop where
 blocks:g.blocks.length≤1000000
 stmts:∀b∈g.blocks,b.stmts.length≤1000000
theorem QP {p q:Prop}(k:q)(h:Im q p:=by(repeat first|simp(disch:=try exact dis1) only[evD,Nat.reduceBEq,Nat.reduceAdd,Nat.reduceLeDiff,fldP,dT,zaT] | ((with_reducible apply Im.i);intro _) | ((with_reducible apply Im.a);omega));exact Im.r):p:=h k
theorem QR {p q:Prop}(k:q)(h:Im q p:=by(repeat first|simp(disch:=try exact dis1) only[evD,Nat.reduceBEq,Nat.reduceAdd,Nat.reduceLeDiff,zaT] | ((with_reducible apply Im.i);intro _) | ((with_reducible apply Im.a);omega));exact Im.r):p:=h k
theorem zll (g:G) (hf:manyB g):zl Tryz.prog ze6 [.agg g.cells] (·=.int .i64 (zbz g)):=by
 refine fn_x zmf rfl ?_;unfold zhu;have hB:=hBig;obtain⟨hb,hs⟩:=hf;obtain⟨ad,l⟩:=g;simp only at hb hs;simp only[G.cells,zbz,zmC]
 by_cases h256:256 < l.length
 ·
  rw[if_pos (.inl h256)]
  (refine QP ?_;intros)
  exact⟨_,.int _ _ _,rfl⟩
 (refine Qi ?_;intros)
 refine zk (fun s:Nat × Nat=>([(1,encP 2 [.int .u32 ad,encL 2 Bl.cells l]),(3,.int .i64 s.2),(4,.int .i64 s.1)],[])) 0 (fun s=>s.1≤l.length∧s.2=cntB (l.take s.1)∧s.2≤1000000 * s.1) (fun s=>l.length - s.1) (0,0) ⟨Wa _,rfl,Nat.le_refl _⟩ (Ent.keep rfl fin5) ?_;rintro⟨i,n⟩ ⟨hi,hn0,hn⟩ wf;simp only at hi hn0 hn;unfold zfy
 by_cases hl:i < l.length
 ·
  have hg:(l.map Bl.cells).getD i []=[.int .u32 l[i].addr,encL 8 St.cells l[i].stmts]:=zm hl;have hsl:=hs l[i] (Wh hl)
  (repeat first|simp(disch:=try exact dis1) only[evD,Nat.reduceBEq,Nat.reduceAdd,Nat.reduceLeDiff,fldP,dT,hg]|with_reducible first|intro _|refine aJ ?_)
  exact⟨(i+1,n+l[i].stmts.length),⟨by simp only;omega,by simp only;rw[zrb hl];omega,by simp only;omega⟩,by simp only;omega,Ent.keep rfl fin5⟩
 obtain rfl:i=l.length:=by omega
 rw[List.take_length] at hn0
 (refine Qi ?_;intros)
 unfold zfn
 by_cases h1024:1024 < cntB l
 ·
  rw[if_pos (.inr h1024)]
  (refine QP ?_;intros)
  exact⟨_,.int _ _ _,rfl⟩
 rw[if_neg (by omega)]
 by_cases h0:l.length=0
 ·
  obtain rfl:l=[]:=Wk h0
  (repeat first|simp(disch:=try exact dis1) only[evD,Nat.reduceBEq,Nat.reduceAdd,Nat.reduceLeDiff,fldP,dT,dF,We,zaT]|with_reducible first|intro _|refine aJ ?_)
  exact⟨_,.int _ _ _,rfl⟩
 have he:l.isEmpty=false:=by cases l with|nil=>simp at h0|cons a l=>rfl
 rw[he]
 (refine Qi ?_;intros)
 refine zk (fun i:Nat=>([(1,encP 2 [.int .u32 ad,encL 2 Bl.cells l]),(5,.int .i64 i)],[])) 0 (fun i=>i≤l.length∧((l.drop i).all fun b=>zdq b.stmts l.length)=(l.all fun b=>zdq b.stmts l.length)) (fun i=>l.length - i) 0 ⟨Wa _,rfl⟩ (Ent.keep rfl fin5) ?_;rintro i ⟨hi,hgo⟩ wf;unfold zfs
 by_cases hl:i < l.length
 ·
  have hg:(l.map Bl.cells).getD i []=[.int .u32 l[i].addr,encL 8 St.cells l[i].stmts]:=zm hl;rw[Wf hl,Wj] at hgo
  (repeat first|simp(disch:=try exact dis1) only[evD,Nat.reduceBEq,Nat.reduceAdd,Nat.reduceLeDiff,fldP,dT,hg]|with_reducible first|intro _|refine aJ ?_)
  refine zbT (zg (znC l[i] l.length) rfl) ?_
  cases hc:zdq l[i].stmts l.length with
  |
   true =>
   rw[hc,Bool.true_and] at hgo
   (refine Qa ?_;intros)
   exact⟨i+1,⟨by omega,hgo⟩,by omega,Ent.keep rfl fin5⟩
  |
   false =>
   rw[hc,Wp] at hgo;rw[←hgo]
   (refine QR ?_;intros)
   exact⟨_,.int _ _ _,rfl⟩
 rw[Wd (by omega)] at hgo
 replace hgo:(l.all fun b=>zdq b.stmts l.length)=true:=by rw[←hgo];rfl
 rw[hgo]
 (refine Qi ?_;intros)
 unfold zfx
 (refine Qa ?_;intros)
 refine zk (fun i:Nat=>([(1,encP 2 [.int .u32 ad,encL 2 Bl.cells l]),(6,.int .i64 i)],[])) 0 (fun i=>i≤l.length∧zi0 (l.drop i)=zi0 l) (fun i=>l.length - i) 0 ⟨Wa _,rfl⟩ (Ent.keep rfl fin5) ?_;rintro i ⟨hi,hgo⟩ wf;unfold zfm
 by_cases hl:i < l.length
 ·
  have hg:(l.map Bl.cells).getD i []=[.int .u32 l[i].addr,encL 8 St.cells l[i].stmts]:=zm hl;rw[znr hl] at hgo
  (repeat first|simp(disch:=try exact dis1) only[evD,Nat.reduceBEq,Nat.reduceAdd,Nat.reduceLeDiff,fldP,dT,hg]|with_reducible first|intro _|refine aJ ?_)
  generalize l[i].stmts=m at hg hgo;generalize l[i].addr=ad' at hg;refine zk (fun j:Nat=>([(1,encP 2 [.int .u32 ad,encL 2 Bl.cells l]),(6,.int .i64 i),(7,.int .i64 j)],[])) 0 (fun j=>j≤m.length∧zgN (m.drop j)=zgN m) (fun j=>m.length - j) 0 ⟨Wa _,rfl⟩ (Ent.keep rfl fin5) ?_;rintro j ⟨hj,hgo2⟩ wf2;unfold zfH
  by_cases hm:j < m.length
  ·
   rw[znX hm] at hgo2
   (repeat first|simp(disch:=try exact dis1) only[evD,Nat.reduceBEq,Nat.reduceAdd,Nat.reduceLeDiff,fldP,dT,hg,zm hm,St.len,St.eight]|with_reducible first|intro _|refine aJ ?_)
   refine zc (zg (zmQ m[j]) rfl) ?_
   by_cases hx:m[j].check=0
   ·
    rw[if_neg (by omega)] at hgo2
    (refine Qk ?_;intros)
    exact⟨j+1,⟨by omega,hgo2⟩,by omega,Ent.keep rfl fin5⟩
   ·
    rw[if_pos hx] at hgo2;rw[←hgo2,if_pos hx] at hgo;rw[←hgo]
    (repeat first|simp(disch:=try exact dis1) only[evD,Nat.reduceBEq,Nat.reduceAdd,Nat.reduceLeDiff,dT,zaT]|with_reducible first|intro _|refine aJ ?_)
    exact⟨_,.int _ _ _,rfl⟩
  ·
   rw[Wd (by omega),zgN] at hgo2;rw[←hgo2,if_neg (by omega)] at hgo
   (repeat first|simp(disch:=try exact dis1) only[evD,Nat.reduceBEq,Nat.reduceAdd,Nat.reduceLeDiff,fldP,dF,hg]|with_reducible first|intro _|refine aJ ?_)
   unfold zfw
   (refine Qa ?_;intros)
   exact⟨i+1,⟨by omega,hgo⟩,by omega,Ent.keep rfl fin5⟩
 rw[Wd (by omega),zi0] at hgo;rw[←hgo]
 (refine Qi ?_;intros)
 unfold zfq
 (refine QR ?_;intros)
 exact⟨_,.int _ _ _,rfl⟩
end Go.Ab
namespace Go.Ab
open Go.RowKit Go.Proofs
structure PredT (fv:AV) (l:List St) (p:St→Bool):Prop where
 ex:∃f caps,fv=.fn (.func f) caps∧zc0 Tryz.prog f=true∧zr caps=true∧∀s∈l,zl Tryz.prog f ([.agg s.cells]++caps) (·=.bool (p s))
theorem zsN {fv:AV} {l:List St} {p:St→Bool} (hp:PredT fv l p) {s:St} (hs:s∈l) {H:AH} {nx:Nat} {k:AV→AH→Nat→Prop} (hk:k (.bool (p s)) H nx):zkr Tryz.prog fv [.agg s.cells] H nx k:=by obtain⟨f,caps,rfl,hg,hf,hx⟩:=hp.ex;rw[zhy];refine⟨hg,zc (zg (hx s hs) ?_) hk⟩;simp only[Wt,List.nil_append,Wj,Wu];exact⟨rfl,zcG hf⟩
theorem zuV {fv:AV} {l:List St} {p:St→Bool} (hp:PredT fv l p) {H H2:AH} {σ:Nat→Nat→Option (Nat × Nat × Nat)} {D:Nat→Nat→Prop} {t:Bool}:Vw H H2 σ D t fv fv:=by
 obtain⟨f,caps,rfl,hg,hf,hx⟩:=hp.ex
 refine .fn _ _ _ _ rfl fun i a b h1 h2=>?_
 rw[h1] at h2;cases h2;exact zcx (zbx hf h1)
theorem QS {p q:Prop}(k:q)(h:Im q p:=by(repeat first|simp(disch:=try exact dis1) only[evD,Nat.reduceBEq,Nat.reduceAdd,Nat.reduceLeDiff,zak] | ((with_reducible apply Im.i);intro _) | ((with_reducible apply Im.a);omega));exact Im.r):p:=h k
theorem zjI (l:List St) (fv:AV) (p:St→Bool) (hp:PredT fv l p):zl Tryz.prog zas [encL 8 St.cells l,fv] (·=.int .i64 (idxI (l.findIdx? p))):=by
 refine fn_x zc7 rfl ?_;unfold zbo;have hB:=hBig
 (refine Qa ?_;intros)
 refine zk (fun i:Nat=>([(0,encL 8 St.cells l),(1,fv),(7,.int .i64 l.length),(8,.int .i64 i)],[])) 0 (fun i=>i≤l.length∧∀j (h:j < l.length),j < i→p l[j]=false) (fun i=>l.length - i) 0 ⟨Wa _,fun j _ h=>by omega⟩ (Ent.keep rfl fin5) ?_;intro i ⟨hi,hno⟩ wf;unfold za7
 (refine Qa ?_;intros)
 (refine zy (fun h=>?_) (fun h=>?_))<;>(try simp only[dcd] at h)
 ·
  have hi':i < l.length:=by omega
  (repeat first|simp(disch:=try exact dis1) only[evD,Nat.reduceBEq,Nat.reduceAdd,Nat.reduceLeDiff,zm hi',St.len,St.eight]|with_reducible first|intro _|refine aJ ?_)
  refine zsN hp (Wh hi') ?_
  (refine Qa ?_;intros)
  (refine zy (fun h2=>?_) (fun h2=>?_))<;>(try simp only[dcd] at h2)
  ·
   (refine QS ?_;intros)
   have e:l.findIdx? p=some i:=by rw[Wl];exact⟨hi',h2,fun j hj=>by rw[hno j (by omega) hj];simp⟩
   rw[e];exact⟨_,.int _ _ _,rfl⟩
  ·
   (refine Qa ?_;intros)
   refine⟨i+1,⟨by omega,fun j hj hji=>?_⟩,by omega,Ent.keep rfl fin5⟩
   by_cases hje:j=i
   · subst hje;simpa using h2
   · exact hno j hj (by omega)
 ·
  unfold zaZ
  (refine QS ?_;intros)
  have e:l.findIdx? p=none:=by rw[Wm];intro x hx;obtain⟨j,hj,rfl⟩:=Wo.1 hx;exact hno j hj (by omega)
  rw[e];exact⟨_,.int _ _ _,rfl⟩
theorem zy8 {l:List St} {p:St→Bool}:decide (idxI (l.findIdx? p) ≥ 0)=l.any p:=by
 cases h:l.findIdx? p with
 |
  none =>
  have:=Wm.1 h;rw[decide_eq_false (by simp[idxI])];symm;rw[Wv];intro x hx;rw[this x hx];simp
 |
  some i =>
  obtain⟨h1,h2,_⟩:=Wl.1 h;rw[decide_eq_true (by simp[idxI])];exact(zqA h1 h2).symm
theorem zh2 (l:List St) (fv:AV) (p:St→Bool) (hp:PredT fv l p):zl Tryz.prog zaf [encL 8 St.cells l,fv] (·=.bool (l.any p)):=by
 refine fn_x zcz rfl ?_;unfold za6
 (refine Qa ?_;intros)
 refine zc (zM (D:=noR) (zjI l fv p hp) (.cons (zal rfl) (.cons (zuV hp) .nil)) (.inl rfl)) ?_
 (repeat first|simp(disch:=try exact dis1) only[evD,Nat.reduceBEq,Nat.reduceAdd,Nat.reduceLeDiff,za2]|with_reducible first|intro _|refine aJ ?_)
 refine⟨_,.bool _ _,?_⟩;rw[←zy8]
structure PredI (fv:AV) (l:List Int) (p:Int→Bool):Prop where
 ex:∃f caps,fv=.fn (.func f) caps∧zc0 Tryz.prog f=true∧zr caps=true∧∀s∈l,zl Tryz.prog f ([.int .i64 s]++caps) (·=.bool (p s))
theorem zsQ {fv:AV} {l:List Int} {p:Int→Bool} (hp:PredI fv l p) {s:Int} (hs:s∈l) {H:AH} {nx:Nat} {k:AV→AH→Nat→Prop} (hk:k (.bool (p s)) H nx):zkr Tryz.prog fv [.int .i64 s] H nx k:=by obtain⟨f,caps,rfl,hg,hf,hx⟩:=hp.ex;rw[zhy];refine⟨hg,zc (zg (hx s hs) ?_) hk⟩;simp only[Wt,List.nil_append,Wj,Wu];exact⟨rfl,zcG hf⟩
theorem zuP {fv:AV} {l:List Int} {p:Int→Bool} (hp:PredI fv l p) {H H2:AH} {σ:Nat→Nat→Option (Nat × Nat × Nat)} {D:Nat→Nat→Prop} {t:Bool}:Vw H H2 σ D t fv fv:=by
 obtain⟨f,caps,rfl,hg,hf,hx⟩:=hp.ex
 refine .fn _ _ _ _ rfl fun i a b h1 h2=>?_
 rw[h1] at h2;cases h2;exact zcx (zbx hf h1)
theorem Qo {p q:Prop}(k:q)(h:Im q p:=by(repeat first|simp(disch:=try exact dis1) only[evD,Nat.reduceBEq,Nat.reduceAdd,Nat.reduceLeDiff,za] | ((with_reducible apply Im.i);intro _) | ((with_reducible apply Im.a);omega));exact Im.r):p:=h k
theorem QU {p q:Prop}(k:q)(h:Im q p:=by(repeat first|simp(disch:=try exact dis1) only[evD,Nat.reduceBEq,Nat.reduceAdd,Nat.reduceLeDiff,zad] | ((with_reducible apply Im.i);intro _) | ((with_reducible apply Im.a);omega));exact Im.r):p:=h k
theorem zjM (l:List Int) (fv:AV) (p:Int→Bool) (hp:PredI fv l p):zl Tryz.prog zaj [za l,fv] (·=.int .i64 (idxI (l.findIdx? p))):=by
 refine fn_x zcC rfl ?_;unfold zbv;have hB:=hBig
 (refine Qo ?_;intros)
 refine zk (fun i:Nat=>([(0,za l),(1,fv),(7,.int .i64 l.length),(8,.int .i64 i)],[])) 0 (fun i=>i≤l.length∧∀j (h:j < l.length),j < i→p l[j]=false) (fun i=>l.length - i) 0 ⟨Wa _,fun j _ h=>by omega⟩ (Ent.keep rfl fin5) ?_;intro i ⟨hi,hno⟩ wf;unfold zbf
 (refine Qa ?_;intros)
 (refine zy (fun h=>?_) (fun h=>?_))<;>(try simp only[dcd] at h)
 ·
  have hi':i < l.length:=by omega
  (repeat first|simp(disch:=try exact dis1) only[evD,Nat.reduceBEq,Nat.reduceAdd,Nat.reduceLeDiff,za,zm hi']|with_reducible first|intro _|refine aJ ?_)
  refine zsQ hp (Wh hi') ?_
  (refine Qa ?_;intros)
  (refine zy (fun h2=>?_) (fun h2=>?_))<;>(try simp only[dcd] at h2)
  ·
   (refine QU ?_;intros)
   have e:l.findIdx? p=some i:=by rw[Wl];exact⟨hi',h2,fun j hj=>by rw[hno j (by omega) hj];simp⟩
   rw[e];exact⟨_,.int _ _ _,rfl⟩
  ·
   (refine Qa ?_;intros)
   refine⟨i+1,⟨by omega,fun j hj hji=>?_⟩,by omega,Ent.keep rfl fin5⟩
   by_cases hje:j=i
   · subst hje;simpa using h2
   · exact hno j hj (by omega)
 ·
  unfold zbi
  (refine QU ?_;intros)
  have e:l.findIdx? p=none:=by rw[Wm];intro x hx;obtain⟨j,hj,rfl⟩:=Wo.1 hx;exact hno j hj (by omega)
  rw[e];exact⟨_,.int _ _ _,rfl⟩
theorem zyJ {l:List Int} {p:Int→Bool}:decide (idxI (l.findIdx? p) ≥ 0)=l.any p:=by
 cases h:l.findIdx? p with
 |
  none =>
  have:=Wm.1 h;rw[decide_eq_false (by simp[idxI])];symm;rw[Wv];intro x hx;rw[this x hx];simp
 |
  some i =>
  obtain⟨h1,h2,_⟩:=Wl.1 h;rw[decide_eq_true (by simp[idxI])];exact(zqA h1 h2).symm
theorem zh9 (l:List Int) (fv:AV) (p:Int→Bool) (hp:PredI fv l p):zl Tryz.prog zbj [za l,fv] (·=.bool (l.any p)):=by
 refine fn_x ze2 rfl ?_;unfold zb7
 (refine Qa ?_;intros)
 refine zc (zM (D:=noR) (zjM l fv p hp) (.cons (zal rfl) (.cons (zuP hp) .nil)) (.inl rfl)) ?_
 (repeat first|simp(disch:=try exact dis1) only[evD,Nat.reduceBEq,Nat.reduceAdd,Nat.reduceLeDiff,zb5]|with_reducible first|intro _|refine aJ ?_)
 refine⟨_,.bool _ _,?_⟩;rw[←zyJ]
theorem QD {p q:Prop}(k:q)(h:Im q p:=by(repeat first|simp(disch:=try exact dis1) only[evD,Nat.reduceBEq,Nat.reduceAdd,Nat.reduceLeDiff,zF] | ((with_reducible apply Im.i);intro _) | ((with_reducible apply Im.a);omega));exact Im.r):p:=h k
theorem zx3 (l:List Int) (hl:l.length≤100000000):z7 Tryz.prog zw [za l] [] 0 (fun v H nx=>v=.own 0 0 0 0 l.length∧H=[(0,.row 1 (l.map cI) 0)]∧nx=1):=by
 refine z8 (fn_x zbq rfl ?_);unfold zaE za;have hB:=hBig
 have hel:∀H,zd2 1 (encL 1 (fun n=>[.int .i64 n]) l) H=some (l.map cI):=fun H=>zvR
 (repeat first|simp(disch:=try exact dis1) only[evD,Nat.reduceBEq,Nat.reduceAdd,Nat.reduceLeDiff,zq9]|with_reducible first|intro _|refine aJ ?_)
 cases h0:(l.length == 0) with
 |
  true =>
  have e:l=[]:=Wk (by simpa using h0);subst e
  (refine Qa ?_;intros)
  rename_i b;cases b
  ·
   (repeat first|simp(disch:=try exact dis1) only[evD,Nat.reduceBEq,Nat.reduceAdd,Nat.reduceLeDiff,hel,zF]|with_reducible first|intro _|refine aJ ?_)
   exact⟨.own 0 0 0 0 0,[(0,.row 1 [] 0)],1,(Ent.tab [(0,1,1)] [] rfl Qak Qak),rfl,rfl,rfl⟩
  ·
   (refine QD ?_;intros)
   exact⟨.own 0 0 0 0 0,[(0,.row 1 [] 0)],1,(Ent.tab [(0,1,0)] [] rfl Qak Qak),rfl,rfl,rfl⟩
 |
  false =>
  (repeat first|simp(disch:=try exact dis1) only[evD,Nat.reduceBEq,Nat.reduceAdd,Nat.reduceLeDiff,hel,zF]|with_reducible first|intro _|refine aJ ?_)
  exact⟨.own 0 0 0 0 l.length,[(0,.row 1 (l.map cI) 0)],1,(Ent.tab [(0,1,1)] [] rfl Qak Qak),rfl,rfl,rfl⟩
theorem renI {ρ:Nat→Nat} {l:List Int} {g:Nat}:AObj.ren ρ (.row 1 (l.map cI) g)=.row 1 (l.map cI) g:=by simp only[AObj.ren];rw[zuy (zfS fun _=>rfl)]
theorem QE {p q:Prop}(k:q)(h:Im q p:=by(repeat first|simp(disch:=try exact dis1) only[evD,Nat.reduceBEq,Nat.reduceAdd,Nat.reduceLeDiff,dT,dF,fldP,za,St.cells,zbG] | ((with_reducible apply Im.i);intro _) | ((with_reducible apply Im.a);omega));exact Im.r):p:=h k
theorem Qal {p:Prop}(h:p:=by(try simp only[evWB,Nat.reduceBEq,Nat.reduceAdd,Nat.reduceSub,Nat.reduceLeDiff,Nat.reduceLT,implies_true])<;>exact fin1):p:=h
theorem zmL (b:Bl) (hc:∀s∈b.stmts,s.cases.length≤100000000):zl Tryz.prog zgh [.agg b.cells] (·=za (zx b.stmts)):=by
 refine fn_x zmR rfl ?_;unfold ziJ;have hB:=hBig;obtain⟨ad,l⟩:=b;simp only at hc;simp only[Bl.cells]
 by_cases h0:l.length=0
 ·
  obtain rfl:l=[]:=Wk h0
  (repeat first|simp(disch:=try exact dis1) only[evD,Nat.reduceBEq,Nat.reduceAdd,Nat.reduceLeDiff,fldP,dT,We,zbG]|with_reducible first|intro _|refine aJ ?_)
  exact⟨_,zaL (l:=[]) trivial rfl (by simp only[We];omega),rfl⟩
 have hlast:l.length - 1 < l.length:=by omega
 have hidx:(((l.length:Nat):Int) - 1).toNat=l.length - 1:=by omega
 have hcs:=hc _ (Wh hlast);have hg:=zm (f:=St.cells) (d:=[]) hlast;rw[zga hlast];generalize l[l.length - 1]=s at hg hcs;obtain⟨op,var,width,next,els,tgt,e,cs⟩:=s;simp only[St.cells] at hg hcs;unfold zg0;simp only
 (repeat first|simp(disch:=try exact dis1) only[evD,Nat.reduceBEq,Nat.reduceAdd,Nat.reduceLeDiff,fldP,dT,dF,hidx,hg]|with_reducible first|intro _|refine aJ ?_)
 by_cases h6:op=6
 ·
  rw[if_pos h6]
  (refine QE ?_;intros)
  exact⟨_,zaL (l:=[next]) trivial rfl (by simp only[Wq];omega),rfl⟩
 rw[if_neg h6]
 by_cases h7:op=7
 ·
  rw[if_pos h7]
  (refine QE ?_;intros)
  exact⟨_,zaL (l:=[next,els]) trivial rfl (by simp only[Wn,We];omega),rfl⟩
 rw[if_neg h7]
 by_cases h8:op=8
 ·
  rw[if_pos h8]
  (repeat first|simp(disch:=try exact dis1) only[evD,Nat.reduceBEq,Nat.reduceAdd,Nat.reduceLeDiff,dT,dF,fldP,St.cells]|with_reducible first|intro _|refine aJ ?_)
  refine zbr [] 0 _ (zx3 cs hcs) rfl rfl Qal Qal ?_;rintro _ _ _ ⟨rfl,rfl,rfl⟩
  (repeat first|simp(disch:=try exact dis1) only[evD,Nat.reduceBEq,Nat.reduceAdd,Nat.reduceLeDiff,renI,zbG]|with_reducible first|intro _|refine aJ ?_)
  exact⟨_,zaL (l:=cs) trivial rfl (by omega),rfl⟩
 rw[if_neg h8]
 (refine QE ?_;intros)
 exact⟨_,zaL (l:=[]) trivial rfl (by simp only[We];omega),rfl⟩
theorem zmD:∀(l:List St) (h:l.length - 1 < l.length),zgU l=(zlK (l[l.length - 1]'h) && !((l.take (l.length - 1)).any zlK))
 | [],h=>by simp at h
 |
  [x],h=>by
  rw[zgU,zgU];simp
 |
  x::y::l,h=>by
  have ih:=zmD (y::l) (by simp);rw[zgU,ih];simp only[Wn,Nat.add_sub_cancel,List.isEmpty_cons,List.take_succ_cons,List.any_cons];have e:(x::y::l)[l.length+1]=(y::l)[l.length]:=rfl;rw[e]
  cases zlK x<;>cases zlK (y::l)[l.length]<;>simp
theorem zzD {α:Type} {f:α→List AV} {H H2:AH} {σ:Nat→Nat→Option (Nat × Nat × Nat)} {D:Nat→Nat→Prop} {t:Bool} {l:List α} {sz i n z:Nat} (hi:i≤l.length) (hn:n=i) (hz:z=0) (hf:∀a,zr (f a)=true) :
  Vw H H2 σ D t (.sl sz n (fun a j=>((l.map f).getD (z+a) []).getD j .undef)) (encL sz f (l.take i)):=by
 subst hn hz
 have e:(l.take n).length=n:=by rw[List.length_take];omega
 unfold encL;rw[e];refine .slf _ _ _ _ _ (fun a j ha hj=>?_)
 have e2:(List.map f (List.take n l)).getD a []=(l.map f).getD (0+a) []:=by rw[Nat.zero_add,List.map_take,Wc,List.getElem?_take_of_lt ha,Wc]
 rw[e2,zm (show 0+a < l.length by omega),Wc]
 cases hx:(f l[0+a])[j]? with
 | none=>exact .undef _ _
 | some x=>exact zcx (zbx (hf _) hx)
theorem zpp (l:List St):PredT (.fn (.func zcB) []) l zlK:=⟨_,_,rfl,by kernel_rfl,rfl,fun s _=>ziu s⟩
theorem QF {p q:Prop}(k:q)(h:Im q p:=by(repeat first|simp(disch:=try exact dis1) only[evD,Nat.reduceBEq,Nat.reduceAdd,Nat.reduceLeDiff,fldP,dT,dF,zeM] | ((with_reducible apply Im.i);intro _) | ((with_reducible apply Im.a);omega));exact Im.r):p:=h k
theorem zoY (t ad:Int) (l:List Bl):zl Tryz.prog zfU [.int .i64 t,encP 2 [.int .u32 ad,encL 2 Bl.cells l]] (·=.bool (!inN l.length t)):=by
 refine fn_x zoS rfl ?_;unfold zj6 inN;have hB:=hBig
 by_cases h0:0≤t
 ·
  by_cases h1:t < l.length
  ·
   rw[decide_eq_true ⟨h0,h1⟩]
   (refine QF ?_;intros)
   exact⟨_,.bool _ _,rfl⟩
  ·
   rw[decide_eq_false (fun h=>h1 h.2)]
   (refine QF ?_;intros)
   exact⟨_,.bool _ _,rfl⟩
 ·
  rw[decide_eq_false (fun h=>h0 h.1)]
  (refine QF ?_;intros)
  exact⟨_,.bool _ _,rfl⟩
theorem zmJ (ad:Int) (l:List Bl) (m:List Int):PredI (.fn (.func zfU) [encP 2 [.int .u32 ad,encL 2 Bl.cells l]]) m (fun t => !inN l.length t):=⟨_,_,rfl,by kernel_rfl,rfl,fun s _=>zoY s ad l⟩
end Go.Ab
