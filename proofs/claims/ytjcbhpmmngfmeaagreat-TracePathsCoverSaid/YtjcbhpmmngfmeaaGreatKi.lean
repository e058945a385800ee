/-
  Part 9 of the proof: how the calls of this program run, over values instead of memory, and what each function computes.
-/
import Derived.KernelRfl
import Derived.Test.YtjcbhpmmngfmeaaGreatKh
set_option maxRecDepth 100000
set_option linter.unusedVariables false
set_option linter.unusedSimpArgs false
set_option linter.unnecessarySimpa false
set_option linter.unusedSectionVars false
open List renaming length_nil→Wa,length_cons→Wd,getD_eq_getElem?_getD→We,getElem?_eq_getElem→Wf,getD→Wh,getElem_mem→Wi,drop_eq_getElem_cons→Wj,drop_of_length_le→Wl,mem_iff_getElem→Wm,eq_nil_of_length_eq_zero→Wn,findIdx?_eq_some_iff_getElem→Wo,findIdx?_eq_none_iff→Wp,pairwise_cons→Wq,length_singleton→Wr,all_cons→Ws,mem_cons→Wt,getElem?_map→Wu,getLast?_eq_getElem?→Wz,cons_append→WA,any_eq_false→WC
open Nat renaming zero_le→Wc,le_refl→Wg
open And renaming intro→Wk
open Array renaming getElem?_eq_none→Wv,getElem?_toList→Ww,getElem?_modify→WE
open Int renaming emod_lt_of_pos→Wx,toNat_of_nonneg→WD
open Option.some renaming injEq→Wy
open Bool renaming and_eq_true→WB
open Option renaming map_eq_some_iff→WF
namespace Go.Ab
open Go.RowKit Go.Proofs
theorem Qb {p q:Prop}(k:q)(h:Im q p:=by(repeat first|simp(disch:=try exact dis1) only[evD,Nat.reduceBEq,Nat.reduceAdd,Nat.reduceLeDiff,dT,dF,fldP,za,zd] | ((with_reducible apply Im.i);intro _) | ((with_reducible apply Im.a);omega));exact Im.r):p:=h k
theorem ztX (op var width next els tgt:Int) (e:List Ex) (cs:List Int) (h:op=1):zk Tryz.prog zaU [.agg [.int .i64 op,.int .i64 var,.int .i64 width,.int .i64 next,.int .i64 els,.int .u32 tgt,encL 5 encX e,za cs]] (·=.bool (zp op var width next els tgt cs.length)):=by
 refine fn_x zbu rfl ?_;unfold zbg;have hB:=hBig
 (refine Qb ?_;intros)
 refine zc (zg (zhp var) rfl) ?_;unfold zqj
 by_cases hv:0≤var∧var < 65536<;>(refine Qb ?_;intros)
 case neg =>exact⟨_,.bool _ _,congrArg AV.bool (by unfold zp;exact lb)⟩
 by_cases q0:width=0<;>(refine Qb ?_;intros)
 case neg =>exact⟨_,.bool _ _,congrArg AV.bool (by unfold zp;exact lb)⟩
 by_cases q1:tgt=0<;>(refine Qb ?_;intros)
 case neg =>exact⟨_,.bool _ _,congrArg AV.bool (by unfold zp;exact lb)⟩
 by_cases q2:next=0<;>(refine Qb ?_;intros)
 case neg =>exact⟨_,.bool _ _,congrArg AV.bool (by unfold zp;exact lb)⟩
 by_cases q3:els=0<;>(refine Qb ?_;intros)
 case neg =>exact⟨_,.bool _ _,congrArg AV.bool (by unfold zp;exact lb)⟩
 exact⟨_,.bool _ _,congrArg AV.bool (by unfold zp;exact lb)⟩
theorem ztb (op var width next els tgt:Int) (e:List Ex) (cs:List Int) (h:op=2):zk Tryz.prog zaU [.agg [.int .i64 op,.int .i64 var,.int .i64 width,.int .i64 next,.int .i64 els,.int .u32 tgt,encL 5 encX e,za cs]] (·=.bool (zp op var width next els tgt cs.length)):=by
 refine fn_x zbu rfl ?_;unfold zbg;have hB:=hBig
 (refine Qb ?_;intros)
 refine zc (zg (zmz width) rfl) ?_;unfold zqq
 by_cases hv:width=1∨width=2∨width=4<;>(refine Qb ?_;intros)
 case neg =>exact⟨_,.bool _ _,congrArg AV.bool (by unfold zp;exact lb)⟩
 by_cases q0:var=0<;>(refine Qb ?_;intros)
 case neg =>exact⟨_,.bool _ _,congrArg AV.bool (by unfold zp;exact lb)⟩
 by_cases q1:tgt=0<;>(refine Qb ?_;intros)
 case neg =>exact⟨_,.bool _ _,congrArg AV.bool (by unfold zp;exact lb)⟩
 by_cases q2:next=0<;>(refine Qb ?_;intros)
 case neg =>exact⟨_,.bool _ _,congrArg AV.bool (by unfold zp;exact lb)⟩
 by_cases q3:els=0<;>(refine Qb ?_;intros)
 case neg =>exact⟨_,.bool _ _,congrArg AV.bool (by unfold zp;exact lb)⟩
 exact⟨_,.bool _ _,congrArg AV.bool (by unfold zp;exact lb)⟩
theorem ztH (op var width next els tgt:Int) (e:List Ex) (cs:List Int) (h:op=3):zk Tryz.prog zaU [.agg [.int .i64 op,.int .i64 var,.int .i64 width,.int .i64 next,.int .i64 els,.int .u32 tgt,encL 5 encX e,za cs]] (·=.bool (zp op var width next els tgt cs.length)):=by
 refine fn_x zbu rfl ?_;unfold zbg;have hB:=hBig
 (refine Qb ?_;intros)
 refine zc (zg (zhp var) rfl) ?_;unfold zqj
 by_cases hv:0≤var∧var < 65536<;>(refine Qb ?_;intros)
 case neg =>exact⟨_,.bool _ _,congrArg AV.bool (by unfold zp;exact lb)⟩
 by_cases q0:width=0<;>(refine Qb ?_;intros)
 case neg =>exact⟨_,.bool _ _,congrArg AV.bool (by unfold zp;exact lb)⟩
 by_cases q1:tgt=0<;>(refine Qb ?_;intros)
 case neg =>exact⟨_,.bool _ _,congrArg AV.bool (by unfold zp;exact lb)⟩
 by_cases q2:next=0<;>(refine Qb ?_;intros)
 case neg =>exact⟨_,.bool _ _,congrArg AV.bool (by unfold zp;exact lb)⟩
 by_cases q3:els=0<;>(refine Qb ?_;intros)
 case neg =>exact⟨_,.bool _ _,congrArg AV.bool (by unfold zp;exact lb)⟩
 exact⟨_,.bool _ _,congrArg AV.bool (by unfold zp;exact lb)⟩
theorem ztY (op var width next els tgt:Int) (e:List Ex) (cs:List Int) (h:op=4):zk Tryz.prog zaU [.agg [.int .i64 op,.int .i64 var,.int .i64 width,.int .i64 next,.int .i64 els,.int .u32 tgt,encL 5 encX e,za cs]] (·=.bool (zp op var width next els tgt cs.length)):=by
 refine fn_x zbu rfl ?_;unfold zbg;have hB:=hBig
 (refine Qb ?_;intros)
 by_cases q0:var=0<;>(refine Qb ?_;intros)
 case neg =>exact⟨_,.bool _ _,congrArg AV.bool (by unfold zp;exact lb)⟩
 by_cases q1:width=0<;>(refine Qb ?_;intros)
 case neg =>exact⟨_,.bool _ _,congrArg AV.bool (by unfold zp;exact lb)⟩
 by_cases q2:tgt=0<;>(refine Qb ?_;intros)
 case neg =>exact⟨_,.bool _ _,congrArg AV.bool (by unfold zp;exact lb)⟩
 by_cases q3:next=0<;>(refine Qb ?_;intros)
 case neg =>exact⟨_,.bool _ _,congrArg AV.bool (by unfold zp;exact lb)⟩
 by_cases q4:els=0<;>(refine Qb ?_;intros)
 case neg =>exact⟨_,.bool _ _,congrArg AV.bool (by unfold zp;exact lb)⟩
 exact⟨_,.bool _ _,congrArg AV.bool (by unfold zp;exact lb)⟩
theorem zs5 (op var width next els tgt:Int) (e:List Ex) (cs:List Int) (h:op=5):zk Tryz.prog zaU [.agg [.int .i64 op,.int .i64 var,.int .i64 width,.int .i64 next,.int .i64 els,.int .u32 tgt,encL 5 encX e,za cs]] (·=.bool (zp op var width next els tgt cs.length)):=by
 refine fn_x zbu rfl ?_;unfold zbg;have hB:=hBig
 (refine Qb ?_;intros)
 by_cases q0:var=0<;>(refine Qb ?_;intros)
 case neg =>exact⟨_,.bool _ _,congrArg AV.bool (by unfold zp;exact lb)⟩
 by_cases q1:width=0<;>(refine Qb ?_;intros)
 case neg =>exact⟨_,.bool _ _,congrArg AV.bool (by unfold zp;exact lb)⟩
 by_cases q2:next=0<;>(refine Qb ?_;intros)
 case neg =>exact⟨_,.bool _ _,congrArg AV.bool (by unfold zp;exact lb)⟩
 by_cases q3:els=0<;>(refine Qb ?_;intros)
 case neg =>exact⟨_,.bool _ _,congrArg AV.bool (by unfold zp;exact lb)⟩
 exact⟨_,.bool _ _,congrArg AV.bool (by unfold zp;exact lb)⟩
theorem ztn (op var width next els tgt:Int) (e:List Ex) (cs:List Int) (h:op=6):zk Tryz.prog zaU [.agg [.int .i64 op,.int .i64 var,.int .i64 width,.int .i64 next,.int .i64 els,.int .u32 tgt,encL 5 encX e,za cs]] (·=.bool (zp op var width next els tgt cs.length)):=by
 refine fn_x zbu rfl ?_;unfold zbg;have hB:=hBig
 (refine Qb ?_;intros)
 by_cases q0:var=0<;>(refine Qb ?_;intros)
 case neg =>exact⟨_,.bool _ _,congrArg AV.bool (by unfold zp;exact lb)⟩
 by_cases q1:width=0<;>(refine Qb ?_;intros)
 case neg =>exact⟨_,.bool _ _,congrArg AV.bool (by unfold zp;exact lb)⟩
 by_cases q2:tgt=0<;>(refine Qb ?_;intros)
 case neg =>exact⟨_,.bool _ _,congrArg AV.bool (by unfold zp;exact lb)⟩
 by_cases q3:els=0<;>(refine Qb ?_;intros)
 case neg =>exact⟨_,.bool _ _,congrArg AV.bool (by unfold zp;exact lb)⟩
 exact⟨_,.bool _ _,congrArg AV.bool (by unfold zp;exact lb)⟩
theorem zsU (op var width next els tgt:Int) (e:List Ex) (cs:List Int) (h:op=7):zk Tryz.prog zaU [.agg [.int .i64 op,.int .i64 var,.int .i64 width,.int .i64 next,.int .i64 els,.int .u32 tgt,encL 5 encX e,za cs]] (·=.bool (zp op var width next els tgt cs.length)):=by
 refine fn_x zbu rfl ?_;unfold zbg;have hB:=hBig
 by_cases q0:var=0
 case neg =>
  ((refine Qb ?_;intros);(repeat' with_reducible apply Wk)<;>(refine Qb ?_;intros);all_goals (exact⟨_,.bool _ _,congrArg AV.bool (by unfold zp;exact lb)⟩))
 by_cases q1:width=0
 case neg =>
  ((refine Qb ?_;intros);(repeat' with_reducible apply Wk)<;>(refine Qb ?_;intros);all_goals (exact⟨_,.bool _ _,congrArg AV.bool (by unfold zp;exact lb)⟩))
 by_cases q2:tgt=0
 case neg =>
  ((refine Qb ?_;intros);(repeat' with_reducible apply Wk)<;>(refine Qb ?_;intros);all_goals (exact⟨_,.bool _ _,congrArg AV.bool (by unfold zp;exact lb)⟩))
 by_cases q3:cs.length=0
 case neg =>
  ((refine Qb ?_;intros);(repeat' with_reducible apply Wk)<;>(refine Qb ?_;intros);all_goals (exact⟨_,.bool _ _,congrArg AV.bool (by unfold zp;exact lb)⟩))
 ((refine Qb ?_;intros);(repeat' with_reducible apply Wk)<;>(refine Qb ?_;intros);all_goals (exact⟨_,.bool _ _,congrArg AV.bool (by unfold zp;exact lb)⟩))
theorem ztU (op var width next els tgt:Int) (e:List Ex) (cs:List Int) (h:op=8):zk Tryz.prog zaU [.agg [.int .i64 op,.int .i64 var,.int .i64 width,.int .i64 next,.int .i64 els,.int .u32 tgt,encL 5 encX e,za cs]] (·=.bool (zp op var width next els tgt cs.length)):=by
 refine fn_x zbu rfl ?_;unfold zbg;have hB:=hBig
 (refine Qb ?_;intros)
 by_cases g1:1≤cs.length<;>(refine Qb ?_;intros)
 case neg =>exact⟨_,.bool _ _,congrArg AV.bool (by unfold zp;exact lb)⟩
 by_cases g2:cs.length≤64<;>(refine Qb ?_;intros)
 case neg =>exact⟨_,.bool _ _,congrArg AV.bool (by unfold zp;exact lb)⟩
 by_cases q0:var=0<;>(refine Qb ?_;intros)
 case neg =>exact⟨_,.bool _ _,congrArg AV.bool (by unfold zp;exact lb)⟩
 by_cases q1:width=0<;>(refine Qb ?_;intros)
 case neg =>exact⟨_,.bool _ _,congrArg AV.bool (by unfold zp;exact lb)⟩
 by_cases q2:tgt=0<;>(refine Qb ?_;intros)
 case neg =>exact⟨_,.bool _ _,congrArg AV.bool (by unfold zp;exact lb)⟩
 by_cases q3:next=0<;>(refine Qb ?_;intros)
 case neg =>exact⟨_,.bool _ _,congrArg AV.bool (by unfold zp;exact lb)⟩
 by_cases q4:els=0<;>(refine Qb ?_;intros)
 case neg =>exact⟨_,.bool _ _,congrArg AV.bool (by unfold zp;exact lb)⟩
 exact⟨_,.bool _ _,congrArg AV.bool (by unfold zp;exact lb)⟩
theorem ztj (op var width next els tgt:Int) (e:List Ex) (cs:List Int) (h:op=9):zk Tryz.prog zaU [.agg [.int .i64 op,.int .i64 var,.int .i64 width,.int .i64 next,.int .i64 els,.int .u32 tgt,encL 5 encX e,za cs]] (·=.bool (zp op var width next els tgt cs.length)):=by
 refine fn_x zbu rfl ?_;unfold zbg;have hB:=hBig
 (refine Qb ?_;intros)
 by_cases q0:var=0<;>(refine Qb ?_;intros)
 case neg =>exact⟨_,.bool _ _,congrArg AV.bool (by unfold zp;exact lb)⟩
 by_cases q1:width=0<;>(refine Qb ?_;intros)
 case neg =>exact⟨_,.bool _ _,congrArg AV.bool (by unfold zp;exact lb)⟩
 by_cases q2:tgt=0<;>(refine Qb ?_;intros)
 case neg =>exact⟨_,.bool _ _,congrArg AV.bool (by unfold zp;exact lb)⟩
 by_cases q3:next=0<;>(refine Qb ?_;intros)
 case neg =>exact⟨_,.bool _ _,congrArg AV.bool (by unfold zp;exact lb)⟩
 by_cases q4:els=0<;>(refine Qb ?_;intros)
 case neg =>exact⟨_,.bool _ _,congrArg AV.bool (by unfold zp;exact lb)⟩
 exact⟨_,.bool _ _,congrArg AV.bool (by unfold zp;exact lb)⟩
theorem zr1 (op var width next els tgt:Int) (e:List Ex) (cs:List Int) (h:op=10):zk Tryz.prog zaU [.agg [.int .i64 op,.int .i64 var,.int .i64 width,.int .i64 next,.int .i64 els,.int .u32 tgt,encL 5 encX e,za cs]] (·=.bool (zp op var width next els tgt cs.length)):=by
 refine fn_x zbu rfl ?_;unfold zbg;have hB:=hBig
 (refine Qb ?_;intros)
 by_cases q0:var=0<;>(refine Qb ?_;intros)
 case neg =>exact⟨_,.bool _ _,congrArg AV.bool (by unfold zp;exact lb)⟩
 by_cases q1:width=0<;>(refine Qb ?_;intros)
 case neg =>exact⟨_,.bool _ _,congrArg AV.bool (by unfold zp;exact lb)⟩
 by_cases q2:tgt=0<;>(refine Qb ?_;intros)
 case neg =>exact⟨_,.bool _ _,congrArg AV.bool (by unfold zp;exact lb)⟩
 by_cases q3:next=0<;>(refine Qb ?_;intros)
 case neg =>exact⟨_,.bool _ _,congrArg AV.bool (by unfold zp;exact lb)⟩
 by_cases q4:els=0<;>(refine Qb ?_;intros)
 case neg =>exact⟨_,.bool _ _,congrArg AV.bool (by unfold zp;exact lb)⟩
 exact⟨_,.bool _ _,congrArg AV.bool (by unfold zp;exact lb)⟩
theorem zsu (op var width next els tgt:Int) (e:List Ex) (cs:List Int) (h1:1≤op) (h2:op≤10):zk Tryz.prog zaU [.agg [.int .i64 op,.int .i64 var,.int .i64 width,.int .i64 next,.int .i64 els,.int .u32 tgt,encL 5 encX e,za cs]] (·=.bool (zp op var width next els tgt cs.length)):=by
 by_cases h10:op=1
 · exact ztX op var width next els tgt e cs h10
 by_cases h20:op=2
 · exact ztb op var width next els tgt e cs h20
 by_cases h30:op=3
 · exact ztH op var width next els tgt e cs h30
 by_cases h40:op=4
 · exact ztY op var width next els tgt e cs h40
 by_cases h50:op=5
 · exact zs5 op var width next els tgt e cs h50
 by_cases h60:op=6
 · exact ztn op var width next els tgt e cs h60
 by_cases h70:op=7
 · exact zsU op var width next els tgt e cs h70
 by_cases h80:op=8
 · exact ztU op var width next els tgt e cs h80
 by_cases h90:op=9
 · exact ztj op var width next els tgt e cs h90
 by_cases h100:op=10
 · exact zr1 op var width next els tgt e cs h100
 omega
def ziB:List Ex→Int
 | []=>0
 | x::l=>if ziL x≠0 then ziL x else ziB l
theorem zoI {l:List Ex} {i:Nat} (h:i < l.length):ziB (l.drop i)=if ziL l[i]≠0 then ziL l[i] else ziB (l.drop (i+1)):=by rw[Wj h,ziB]
def zre (op var width next els tgt:Int) (e:List Ex) (cs:List Int):Int :=
 if (op < 1∨10 < op)∨zX op≠e.length then 2 else if ziB e≠0 then ziB e else if zp op var width next els tgt cs.length=true then 0 else 2
theorem Qj {p q:Prop}(k:q)(h:Im q p:=by(repeat first|simp(disch:=try exact dis1) only[evD,Nat.reduceBEq,Nat.reduceAdd,Nat.reduceLeDiff,dT,dF,fldP,za,zr] | ((with_reducible apply Im.i);intro _) | ((with_reducible apply Im.a);omega));exact Im.r):p:=h k
theorem QO {p q:Prop}(k:q)(h:Im q p:=by(repeat first|simp(disch:=try exact dis1) only[evD,Nat.reduceBEq,Nat.reduceAdd,Nat.reduceLeDiff,dF,fldP,za] | ((with_reducible apply Im.i);intro _) | ((with_reducible apply Im.a);omega));exact Im.r):p:=h k
theorem QP {p q:Prop}(k:q)(h:Im q p:=by(repeat first|simp(disch:=try exact dis1) only[evD,Nat.reduceBEq,Nat.reduceAdd,Nat.reduceLeDiff,fldP,zk6,tab,List.getD_cons_zero,List.getD_cons_succ,za] | ((with_reducible apply Im.i);intro _) | ((with_reducible apply Im.a);omega));exact Im.r):p:=h k
theorem zm8 (op var width next els tgt:Int) (e:List Ex) (cs:List Int):zk Tryz.prog zd6 [.agg [.int .i64 op,.int .i64 var,.int .i64 width,.int .i64 next,.int .i64 els,.int .u32 tgt,encL 5 encX e,za cs]] (·=.int .i64 (zre op var width next els tgt e cs)):=by
 refine fn_x zmZ rfl ?_;unfold ziJ zre;have hB:=hBig
 by_cases h1:1≤op
 case neg =>
  rw[if_pos (by omega)]
  (refine Qj ?_;intros)
  exact⟨_,.int _ _ _,rfl⟩
 by_cases h2:op≤10
 case neg =>
  rw[if_pos (by omega)]
  (refine Qj ?_;intros)
  exact⟨_,.int _ _ _,rfl⟩
 (refine QO ?_;intros)
 refine zbS (zg (zsz op h1 h2) rfl) ?_;generalize zX op=n
 by_cases h3:n=e.length
 case neg =>
  rw[if_pos (by omega)]
  (refine Qj ?_;intros)
  exact⟨_,.int _ _ _,rfl⟩
 rw[if_neg (by omega)]
 (repeat first|simp(disch:=try exact dis1) only[evD,Nat.reduceBEq,Nat.reduceAdd,Nat.reduceLeDiff,dT,dF,fldP,za]|with_reducible first|intro _|refine aJ ?_)
 refine zm (fun i:Nat=>([(1,encP 8 [.int .i64 op,.int .i64 var,.int .i64 width,.int .i64 next,.int .i64 els,.int .u32 tgt,encL 5 encX e,za cs]),(3,.int .i64 i)],[])) 0 (fun i=>i≤e.length∧ziB (e.drop i)=ziB e) (fun i=>e.length - i) 0 ⟨Wc _,rfl⟩ (Ent.keep rfl fin5) ?_;rintro i ⟨hi,hgo⟩ wf;unfold zf6
 by_cases hl:i < e.length
 ·
  rw[zoI hl] at hgo
  (repeat first|simp(disch:=try exact dis1) only[evD,Nat.reduceBEq,Nat.reduceAdd,Nat.reduceLeDiff,fldP,dT,zo hl,zbO,zbn]|with_reducible first|intro _|refine aJ ?_)
  refine zc (zg (zmS e[i]) (flX rfl)) ?_
  by_cases hx:ziL e[i]=0
  ·
   rw[if_neg (by omega)] at hgo
   (refine Qk ?_;intros)
   exact⟨i+1,⟨by omega,hgo⟩,by omega,Ent.keep rfl fin5⟩
  ·
   rw[if_pos hx] at hgo;rw[←hgo,if_pos hx]
   (repeat first|simp(disch:=try exact dis1) only[evD,Nat.reduceBEq,Nat.reduceAdd,Nat.reduceLeDiff,dT,zr]|with_reducible first|intro _|refine aJ ?_)
   exact⟨_,.int _ _ _,rfl⟩
 rw[Wl (by omega),ziB] at hgo;rw[←hgo,if_neg (by omega)]
 (refine Qi ?_;intros)
 unfold zgB
 (refine QP ?_;intros)
 refine zc (zg (zqI op var width next els tgt e cs h1 h2) rfl) ?_
 cases hu:zz op var width next els tgt cs.length with
 |
  false =>
  unfold zz at hu;have hu2:=of_decide_eq_false hu;rw[if_neg (by unfold zp;rw[dF (fun h=>hu2 h.1)];simp)]
  (refine Qj ?_;intros)
  exact⟨_,.int _ _ _,rfl⟩
 |
  true =>
  unfold zz at hu;have hu2:=of_decide_eq_true hu
  (refine Qj ?_;intros)
  refine zc (zg (zmL var) rfl) ?_;unfold zqj
  by_cases hv:0≤var∧var < 65536
  case neg =>
   rw[if_neg (by unfold zp;rw[dF (fun h=>hv h.2.1)];simp)]
   (refine Qj ?_;intros)
   exact⟨_,.int _ _ _,rfl⟩
  (refine Qj ?_;intros)
  by_cases o2:op=2
  ·
   (refine Qj ?_;intros)
   by_cases w1:width=1
   ·
    rw[if_pos (by unfold zp;exact dT ⟨hu2,hv,by omega,by omega⟩)]
    (refine Qj ?_;intros)
    exact⟨_,.int _ _ _,rfl⟩
   (refine Qj ?_;intros)
   by_cases w2:width=2
   ·
    rw[if_pos (by unfold zp;exact dT ⟨hu2,hv,by omega,by omega⟩)]
    (refine Qj ?_;intros)
    exact⟨_,.int _ _ _,rfl⟩
   (refine Qj ?_;intros)
   by_cases w4:width=4
   ·
    rw[if_pos (by unfold zp;exact dT ⟨hu2,hv,by omega,by omega⟩)]
    (refine Qj ?_;intros)
    exact⟨_,.int _ _ _,rfl⟩
   rw[if_neg (by unfold zp;rw[dF (fun h=>by have:=h.2.2.1 o2;omega)];simp)]
   (refine Qj ?_;intros)
   exact⟨_,.int _ _ _,rfl⟩
  (refine Qj ?_;intros)
  by_cases o8:op=8
  ·
   (refine Qj ?_;intros)
   by_cases c1:1≤cs.length
   case neg =>
    rw[if_neg (by unfold zp;rw[dF (fun h=>by have:=h.2.2.2 o8;omega)];simp)]
    (refine Qj ?_;intros)
    exact⟨_,.int _ _ _,rfl⟩
   (refine Qj ?_;intros)
   by_cases c2:cs.length≤64
   case neg =>
    rw[if_neg (by unfold zp;rw[dF (fun h=>by have:=h.2.2.2 o8;omega)];simp)]
    (refine Qj ?_;intros)
    exact⟨_,.int _ _ _,rfl⟩
   rw[if_pos (by unfold zp;exact dT ⟨hu2,hv,by omega,by omega⟩)]
   (refine Qj ?_;intros)
   exact⟨_,.int _ _ _,rfl⟩
  rw[if_pos (by unfold zp;exact dT ⟨hu2,hv,by omega,by omega⟩)]
  (refine Qj ?_;intros)
  exact⟨_,.int _ _ _,rfl⟩
theorem ztr {op:Int}:zX op < 0↔(op < 1∨10 < op):=by
 unfold zX;constructor
 ·
  intro h
  repeat' split at h
  all_goals omega
 · intro h;rw[if_neg (by omega),if_neg (by omega),if_neg (by omega)];omega
theorem Qs {p q:Prop}(k:q)(h:Im q p:=by(repeat first|simp(disch:=try exact dis1) only[evD,Nat.reduceBEq,Nat.reduceAdd,Nat.reduceLeDiff,dT,dF,fldP,za,zaG] | ((with_reducible apply Im.i);intro _) | ((with_reducible apply Im.a);omega));exact Im.r):p:=h k
theorem zok (op var width next els tgt:Int) (e:List Ex) (cs:List Int):zk Tryz.prog zeQ [.agg [.int .i64 op,.int .i64 var,.int .i64 width,.int .i64 next,.int .i64 els,.int .u32 tgt,encL 5 encX e,za cs]] (·=.int .i64 (zre op var width next els tgt e cs)):=by
 refine fn_x znL rfl ?_;unfold zjv zre;have hB:=hBig
 (refine Qs ?_;intros)
 refine zc (zg (zmg op) rfl) ?_;have hneg:=ztr (op:=op);generalize zX op=n at hneg ⊢
 by_cases h1:n < 0
 ·
  rw[if_pos (.inl (hneg.1 h1))]
  (refine Qs ?_;intros)
  exact⟨_,.int _ _ _,rfl⟩
 have hop:¬(op < 1∨10 < op):=fun h=>h1 (hneg.2 h)
 (refine Qs ?_;intros)
 by_cases h3:n=e.length
 case neg =>
  rw[if_pos (.inr h3)]
  (refine Qs ?_;intros)
  exact⟨_,.int _ _ _,rfl⟩
 rw[if_neg (by omega)]
 (refine Qs ?_;intros)
 refine zm (fun i:Nat=>([(1,encP 8 [.int .i64 op,.int .i64 var,.int .i64 width,.int .i64 next,.int .i64 els,.int .u32 tgt,encL 5 encX e,za cs]),(20,encL 5 encX e),(21,.int .i64 e.length),(22,.int .i64 i)],[])) 0 (fun i=>i≤e.length∧ziB (e.drop i)=ziB e) (fun i=>e.length - i) 0 ⟨Wc _,rfl⟩ (Ent.keep rfl fin5) ?_;rintro i ⟨hi,hgo⟩ wf;unfold zg8
 by_cases hl:i < e.length
 ·
  rw[zoI hl] at hgo
  (repeat first|simp(disch:=try exact dis1) only[evD,Nat.reduceBEq,Nat.reduceAdd,Nat.reduceLeDiff,fldP,dT,zo hl,zbO,zbn]|with_reducible first|intro _|refine aJ ?_)
  refine zc (zg (zdX e[i]) (flX rfl)) ?_
  by_cases hx:ziL e[i]=0
  ·
   rw[if_neg (by omega)] at hgo
   (refine Qk ?_;intros)
   exact⟨i+1,⟨by omega,hgo⟩,by omega,(Ent.tab [] [] rfl Qan Qan)⟩
  ·
   rw[if_pos hx] at hgo;rw[←hgo,if_pos hx]
   (repeat first|simp(disch:=try exact dis1) only[evD,Nat.reduceBEq,Nat.reduceAdd,Nat.reduceLeDiff,dT,zaG]|with_reducible first|intro _|refine aJ ?_)
   exact⟨_,.int _ _ _,rfl⟩
 rw[Wl (by omega),ziB] at hgo;rw[←hgo,if_neg (by omega)]
 (refine Qi ?_;intros)
 unfold zhh
 (refine QP ?_;intros)
 refine zc (zg (zsu op var width next els tgt e cs (by omega) (by omega)) rfl) ?_
 cases zp op var width next els tgt cs.length with
 |
  false =>
  (refine Qs ?_;intros)
  exact⟨_,.int _ _ _,rfl⟩
 |
  true =>
  (refine Qs ?_;intros)
  exact⟨_,.int _ _ _,rfl⟩
structure St where
 op:Int
 var:Int
 width:Int
 next:Int
 els:Int
 tgt:Int
 e:List Ex
 cases:List Int
def St.cells (s:St):List AV:=[.int .i64 s.op,.int .i64 s.var,.int .i64 s.width,.int .i64 s.next,.int .i64 s.els,.int .u32 s.tgt,encL 5 encX s.e,za s.cases]
structure Bl where
 addr:Int
 stmts:List St
def Bl.cells (b:Bl):List AV:=[.int .u32 b.addr,encL 8 St.cells b.stmts]
structure G where
 addr:Int
 blocks:List Bl
def G.cells (g:G):List AV:=[.int .u32 g.addr,encL 2 Bl.cells g.blocks]
theorem St.len (s:St):s.cells.length=8:=rfl
theorem St.flat (s:St):zt s.cells=true:=rfl
theorem St.eight (s:St):[s.cells.getD 0 .undef,s.cells.getD 1 .undef,s.cells.getD 2 .undef,s.cells.getD 3 .undef,s.cells.getD 4 .undef,s.cells.getD 5 .undef,s.cells.getD 6 .undef,s.cells.getD 7 .undef]=s.cells:=rfl
def zlQ (s:St):Bool:=decide (6≤s.op∧s.op≤10)
def zhf (s:St):List Int:=if s.op=6 then [s.next] else if s.op=7 then [s.next,s.els] else if s.op=8 then s.cases else []
def St.check (s:St):Int:=zre s.op s.var s.width s.next s.els s.tgt s.e s.cases
theorem zmW (s:St):zk Tryz.prog zd6 [.agg s.cells] (·=.int .i64 s.check):=zm8 _ _ _ _ _ _ _ _
theorem znx (s:St):zk Tryz.prog zeQ [.agg s.cells] (·=.int .i64 s.check):=zok _ _ _ _ _ _ _ _
theorem zuh (s:St):zk Tryz.prog zmo [.agg s.cells] (·=.bool (zlQ s)):=by
 refine fn_x zuf rfl ?_;unfold znW;have hB:=hBig;obtain⟨op,var,width,next,els,tgt,e,cs⟩:=s;unfold zlQ
 by_cases h1:6≤op
 ·
  (repeat first|simp(disch:=try exact dis1) only[evD,Nat.reduceBEq,Nat.reduceAdd,Nat.reduceLeDiff,dT,fldP,za,St.cells,zkE]|with_reducible first|intro _|refine aJ ?_)
  exact⟨_,.bool _ _,congrArg AV.bool (decide_eq_decide.2 (by omega))⟩
 ·
  (repeat first|simp(disch:=try exact dis1) only[evD,Nat.reduceBEq,Nat.reduceAdd,Nat.reduceLeDiff,dF,fldP,za,St.cells,zkE]|with_reducible first|intro _|refine aJ ?_)
  exact⟨_,.bool _ _,rfl⟩
theorem ziI (s:St):zk Tryz.prog zcJ [.agg s.cells] (·=.bool (zlQ s)):=by
 refine fn_x zmX rfl ?_;unfold ziA;have hB:=hBig;obtain⟨op,var,width,next,els,tgt,e,cs⟩:=s;unfold zlQ
 by_cases h1:6≤op
 ·
  (repeat first|simp(disch:=try exact dis1) only[evD,Nat.reduceBEq,Nat.reduceAdd,Nat.reduceLeDiff,dT,fldP,za,St.cells,zfi]|with_reducible first|intro _|refine aJ ?_)
  exact⟨_,.bool _ _,congrArg AV.bool (decide_eq_decide.2 (by omega))⟩
 ·
  (repeat first|simp(disch:=try exact dis1) only[evD,Nat.reduceBEq,Nat.reduceAdd,Nat.reduceLeDiff,dF,fldP,za,St.cells,zfi]|with_reducible first|intro _|refine aJ ?_)
  exact⟨_,.bool _ _,rfl⟩
theorem Qw {p q:Prop}(k:q)(h:Im q p:=by(repeat first|simp(disch:=try exact dis1) only[evD,Nat.reduceBEq,Nat.reduceAdd,Nat.reduceLeDiff,dT,dF,fldP,za,St.cells,zc9] | ((with_reducible apply Im.i);intro _) | ((with_reducible apply Im.a);omega));exact Im.r):p:=h k
theorem zo5 (s:St):zk Tryz.prog zik [.agg s.cells] (·=za (zhf s)):=by
 refine fn_x zpb rfl ?_;unfold zj8;have hB:=hBig;obtain⟨op,var,width,next,els,tgt,e,cs⟩:=s;unfold zhf;simp only
 by_cases h6:op=6
 ·
  rw[if_pos h6]
  (refine Qw ?_;intros)
  exact⟨_,zaV (l:=[next]) trivial rfl (by simp only[Wr];omega),rfl⟩
 rw[if_neg h6]
 by_cases h7:op=7
 ·
  rw[if_pos h7]
  (refine Qw ?_;intros)
  exact⟨_,zaV (l:=[next,els]) trivial rfl (by simp only[Wd,Wa];omega),rfl⟩
 rw[if_neg h7]
 by_cases h8:op=8
 ·
  rw[if_pos h8]
  (refine Qw ?_;intros)
  exact⟨_,zao rfl,rfl⟩
 rw[if_neg h8]
 (refine Qw ?_;intros)
 exact⟨_,zaV (l:=[]) trivial rfl (by simp only[Wa];omega),rfl⟩
end Go.Ab
namespace Go.Ab
open Go.RowKit Go.Proofs Go.Proofs.YtjcbhpmmngfmeaaGreat
section
variable {HH:Type} {enc:TypeId × Value→HH} {w:World} {base:Nat} {spare:Nat→Bool} {held:Bool} {L:Nat→Prop} (hL:∀b,¬L b)
include hL
theorem zzi {fuel:Nat} {cs:List Value} {y:DataW HH × List MemPlace} (h:DataW.trod enc Tryz.prog w base spare held fuel 60 cs=some y):∃s:St,ElOk w L cs s.cells:=by
 have hcx:Tryz.prog.cellsOf 101=5:=by kernel_rfl
 obtain⟨xs,n,rfl,rfl,hlen,hxs,hf⟩:=DataW.trod_struct Tryz.underlying60 h
 have hc:Tryz.prog.cellsOf 60=8:=by kernel_rfl
 have hc3:Tryz.prog.cellsOf 3=1:=by kernel_rfl
 have hc22:Tryz.prog.cellsOf 22=1:=by kernel_rfl
 have hc29:Tryz.prog.cellsOf 29=1:=by kernel_rfl
 have hc42:Tryz.prog.cellsOf 42=1:=by kernel_rfl
 rw[hc] at hlen
 have hget:∀i,i < 8→xs[i]? = some (xs.getD i (.nil,[])):=fun i hi=>by rw[We,Wf (by rw[hxs];exact hi)];rfl
 match cs,hlen with
 |
  [c0,c1,c2,c3,c4,c5,c6,c7],_ =>
  have f0:DataW.trod enc Tryz.prog w base spare held n 3 (([c0,c1,c2,c3,c4,c5,c6,c7].drop 0).take (Tryz.prog.cellsOf 3))=some (xs.getD 0 (.nil,[])):=(hf 0 _ rfl).trans (hget 0 (by decide));rw[hc3] at f0;replace f0:DataW.trod enc Tryz.prog w base spare held n 3 [c0]=some (xs.getD 0 (.nil,[])):=f0;have f1:DataW.trod enc Tryz.prog w base spare held n 3 (([c0,c1,c2,c3,c4,c5,c6,c7].drop 1).take (Tryz.prog.cellsOf 3))=some (xs.getD 1 (.nil,[])):=(hf 1 _ rfl).trans (hget 1 (by decide));rw[hc3] at f1;replace f1:DataW.trod enc Tryz.prog w base spare held n 3 [c1]=some (xs.getD 1 (.nil,[])):=f1;have f2:DataW.trod enc Tryz.prog w base spare held n 3 (([c0,c1,c2,c3,c4,c5,c6,c7].drop 2).take (Tryz.prog.cellsOf 3))=some (xs.getD 2 (.nil,[])):=(hf 2 _ rfl).trans (hget 2 (by decide));rw[hc3] at f2;replace f2:DataW.trod enc Tryz.prog w base spare held n 3 [c2]=some (xs.getD 2 (.nil,[])):=f2;have f3:DataW.trod enc Tryz.prog w base spare held n 3 (([c0,c1,c2,c3,c4,c5,c6,c7].drop 3).take (Tryz.prog.cellsOf 3))=some (xs.getD 3 (.nil,[])):=(hf 3 _ rfl).trans (hget 3 (by decide));rw[hc3] at f3;replace f3:DataW.trod enc Tryz.prog w base spare held n 3 [c3]=some (xs.getD 3 (.nil,[])):=f3;have f4:DataW.trod enc Tryz.prog w base spare held n 3 (([c0,c1,c2,c3,c4,c5,c6,c7].drop 4).take (Tryz.prog.cellsOf 3))=some (xs.getD 4 (.nil,[])):=(hf 4 _ rfl).trans (hget 4 (by decide));rw[hc3] at f4;replace f4:DataW.trod enc Tryz.prog w base spare held n 3 [c4]=some (xs.getD 4 (.nil,[])):=f4;have f5:DataW.trod enc Tryz.prog w base spare held n 22 (([c0,c1,c2,c3,c4,c5,c6,c7].drop 5).take (Tryz.prog.cellsOf 22))=some (xs.getD 5 (.nil,[])):=(hf 5 _ rfl).trans (hget 5 (by decide));rw[hc22] at f5;replace f5:DataW.trod enc Tryz.prog w base spare held n 22 [c5]=some (xs.getD 5 (.nil,[])):=f5;have f6:DataW.trod enc Tryz.prog w base spare held n 42 (([c0,c1,c2,c3,c4,c5,c6,c7].drop 6).take (Tryz.prog.cellsOf 42))=some (xs.getD 6 (.nil,[])):=(hf 6 _ rfl).trans (hget 6 (by decide));rw[hc42] at f6;replace f6:DataW.trod enc Tryz.prog w base spare held n 42 [c6]=some (xs.getD 6 (.nil,[])):=f6;have f7:DataW.trod enc Tryz.prog w base spare held n 29 (([c0,c1,c2,c3,c4,c5,c6,c7].drop 7).take (Tryz.prog.cellsOf 29))=some (xs.getD 7 (.nil,[])):=(hf 7 _ rfl).trans (hget 7 (by decide));rw[hc29] at f7;replace f7:DataW.trod enc Tryz.prog w base spare held n 29 [c7]=some (xs.getD 7 (.nil,[])):=f7;obtain⟨n0,h0,w0⟩:=zhV Tryz.underlying3 f0;obtain⟨n1,h1,w1⟩:=zhV Tryz.underlying3 f1;obtain⟨n2,h2,w2⟩:=zhV Tryz.underlying3 f2;obtain⟨n3,h3,w3⟩:=zhV Tryz.underlying3 f3;obtain⟨n4,h4,w4⟩:=zhV Tryz.underlying3 f4;obtain⟨n5,h5,w5⟩:=zhV Tryz.underlying22 f5;obtain⟨l6,v6,h6,o6,w6⟩:=zr6 (L:=L) (α:=Ex) (cells:=encX) hL Tryz.underlying42 hcx (fun fuel' hf' cs y h _=>zBF hL fuel' fuel' (Wg _) cs y h) f6;obtain⟨l7,v7,h7,o7,w7⟩:=zyG Tryz.underlying29 Tryz.underlying3 hc3 hL f7;cases h0;cases h1;cases h2;cases h3;cases h4;cases h5;cases h6;cases h7;refine⟨⟨n0,n1,n2,n3,n4,n5,l6,l7⟩,fun j hj=>?_⟩
  match j with
  | 0=>exact⟨.int _ _ _ w0,rfl⟩
  | 1=>exact⟨.int _ _ _ w1,rfl⟩
  | 2=>exact⟨.int _ _ _ w2,rfl⟩
  | 3=>exact⟨.int _ _ _ w3,rfl⟩
  | 4=>exact⟨.int _ _ _ w4,rfl⟩
  | 5=>exact⟨.int _ _ _ w5,rfl⟩
  | 6=>exact⟨w6 _,o6⟩
  | 7=>exact⟨w7 _,o7⟩
  | j+8=>exact absurd hj (by simp)
theorem zAl {fuel:Nat} {cs:List Value} {y:DataW HH × List MemPlace} (h:DataW.trod enc Tryz.prog w base spare held fuel 38 cs=some y):∃b:Bl,ElOk w L cs b.cells:=by
 have hcs:Tryz.prog.cellsOf 60=8:=by kernel_rfl
 obtain⟨xs,n,rfl,rfl,hlen,hxs,hf⟩:=DataW.trod_struct Tryz.underlying38 h
 have hc:Tryz.prog.cellsOf 38=2:=by kernel_rfl
 have hc22:Tryz.prog.cellsOf 22=1:=by kernel_rfl
 have hc36:Tryz.prog.cellsOf 36=1:=by kernel_rfl
 rw[hc] at hlen
 have hget:∀i,i < 2→xs[i]? = some (xs.getD i (.nil,[])):=fun i hi=>by rw[We,Wf (by rw[hxs];exact hi)];rfl
 match cs,hlen with
 |
  [c0,c1],_ =>
  have f0:DataW.trod enc Tryz.prog w base spare held n 22 (([c0,c1].drop 0).take (Tryz.prog.cellsOf 22))=some (xs.getD 0 (.nil,[])):=(hf 0 _ rfl).trans (hget 0 (by decide));rw[hc22] at f0;replace f0:DataW.trod enc Tryz.prog w base spare held n 22 [c0]=some (xs.getD 0 (.nil,[])):=f0;have f1:DataW.trod enc Tryz.prog w base spare held n 36 (([c0,c1].drop 1).take (Tryz.prog.cellsOf 36))=some (xs.getD 1 (.nil,[])):=(hf 1 _ rfl).trans (hget 1 (by decide));rw[hc36] at f1;replace f1:DataW.trod enc Tryz.prog w base spare held n 36 [c1]=some (xs.getD 1 (.nil,[])):=f1;obtain⟨n0,h0,w0⟩:=zhV Tryz.underlying22 f0;obtain⟨l1,v1,h1,o1,w1⟩:=zqA (α:=St) (cells:=St.cells) (L:=L) Tryz.underlying36 hcs hL (fun _ _ _ h _=>zzi hL h) f1;cases h0;cases h1;refine⟨⟨n0,l1⟩,fun j hj=>?_⟩
  match j with
  | 0=>exact⟨.int _ _ _ w0,rfl⟩
  | 1=>exact⟨w1 _,o1⟩
  | j+2=>exact absurd hj (by simp)
theorem zAq {fuel:Nat} {cs:List Value} {y:DataW HH × List MemPlace} (h:DataW.trod enc Tryz.prog w base spare held fuel 25 cs=some y):∃g:G,cs.length=2∧ElOk w L cs g.cells∧∀j,j < 2→∀ι,VR w L ι (cs.getD j undef) (g.cells.getD j .undef):=by
 have hcb:Tryz.prog.cellsOf 38=2:=by kernel_rfl
 obtain⟨xs,n,rfl,rfl,hlen,hxs,hf⟩:=DataW.trod_struct Tryz.underlying25 h
 have hc:Tryz.prog.cellsOf 25=2:=by kernel_rfl
 have hc22:Tryz.prog.cellsOf 22=1:=by kernel_rfl
 have hc23:Tryz.prog.cellsOf 23=1:=by kernel_rfl
 rw[hc] at hlen
 have hget:∀i,i < 2→xs[i]? = some (xs.getD i (.nil,[])):=fun i hi=>by rw[We,Wf (by rw[hxs];exact hi)];rfl
 match cs,hlen with
 |
  [c0,c1],_ =>
  have f0:DataW.trod enc Tryz.prog w base spare held n 22 (([c0,c1].drop 0).take (Tryz.prog.cellsOf 22))=some (xs.getD 0 (.nil,[])):=(hf 0 _ rfl).trans (hget 0 (by decide));rw[hc22] at f0;replace f0:DataW.trod enc Tryz.prog w base spare held n 22 [c0]=some (xs.getD 0 (.nil,[])):=f0;have f1:DataW.trod enc Tryz.prog w base spare held n 23 (([c0,c1].drop 1).take (Tryz.prog.cellsOf 23))=some (xs.getD 1 (.nil,[])):=(hf 1 _ rfl).trans (hget 1 (by decide));rw[hc23] at f1;replace f1:DataW.trod enc Tryz.prog w base spare held n 23 [c1]=some (xs.getD 1 (.nil,[])):=f1;obtain⟨n0,h0,w0⟩:=zhV Tryz.underlying22 f0;obtain⟨l1,v1,h1,o1,w1⟩:=zqA (α:=Bl) (cells:=Bl.cells) (L:=L) Tryz.underlying23 hcb hL (fun _ _ _ h _=>zAl hL h) f1;cases h0;cases h1;refine⟨⟨n0,l1⟩,rfl,fun j hj=>?_,fun j hj ι=>?_⟩
  ·
   match j with
   | 0=>exact⟨.int _ _ _ w0,rfl⟩
   | 1=>exact⟨w1 _,o1⟩
   | j+2=>exact absurd hj (by simp)
  ·
   match j with
   | 0=>exact .int _ _ _ w0
   | 1=>exact w1 _
   | j+2=>omega
theorem open_graph {v:Value} {d:DataW HH} {ps:List MemPlace} (hv:Value.okWide Tryz.prog w .any base 25 v) {b2:Nat} (h:DataW.Trod enc Tryz.prog w b2 spare held 25 v d ps):∃g:G,True∧∀ι,VR w L ι v (.agg g.cells):=by
 obtain⟨fuel,hf⟩:=h;unfold Value.okWide at hv;rw[Tryz.underlying25] at hv;simp only at hv;obtain⟨cs,rfl,_,_⟩:=hv;have hf':DataW.trod enc Tryz.prog w b2 spare held fuel 25 cs.toList=some (d,ps):=hf;obtain⟨g,h1,h2,h3⟩:=zAq hL hf'
 refine⟨g,trivial,fun ι=>.agg ι cs _ (by
  have:cs.size=2:=by simpa using h1
  rw[this];rfl) (fun i v hi=>?_) (fun i v a hi ha=>?_)⟩
 ·
  have hi2:i < cs.size:=by
   rcases Nat.lt_or_ge i cs.size with h|h
   · exact h
   · rw[Wv h] at hi;cases hi
  have:=(h2 i (by simpa using hi2)).2;rw[We,Ww,hi] at this;exact this
 ·
  have hi2:i < cs.size:=by
   rcases Nat.lt_or_ge i cs.size with h|h
   · exact h
   · rw[Wv h] at hi;cases hi
  have hi3:i < 2:=by rw[←h1];simpa using hi2
  have:=h3 i hi3 ι;rw[We,Ww,hi,We,ha] at this;exact this
end
end Go.Ab
namespace Go.Ab
open Go.RowKit Go.Proofs
def zeG:ACode :=
  .region [
  ⟨(some 6),.mov (.t 11),none⟩] [11]
def zbZ:ACode :=
  .block 1
  (.seq
  (.region [
   ⟨(some 12),.load false 1 (.t 5),none⟩,
   ⟨(some 13),.mov (.t 6),none⟩,
   ⟨(some 14),.buildSl 1 1 [.int .i64 0] [(0,(.t 13))],none⟩,
   ⟨(some 15),.append 1 8 (.t 12) (.t 14),none⟩,
   (oS 1 5 15)] [6,12,13,14,15])
  (.seq
  (.region [
   ⟨(some 16),.load false 1 (.t 5),none⟩,
   ⟨(some 17),.len (.t 16),none⟩,
   ⟨(some 18),.load false 1 (.t 3),none⟩,
   ⟨(some 19),.bin .eql (.t 17) (.t 18),none⟩] [3,5,16,17,18])
  (.cond (.t 19)
   (.exit 0)
   (.skip))))
def zai:ACode :=
  .seq
 (.region [
  ⟨(some 20),.load false 1 (.t 5),none⟩,
  ⟨(some 4),.mov (.t 20),none⟩] [3,5,20])
 (.ret)
def zhs:ACode :=
 .seq
 (.region [
  ⟨(some 3),.rbox (.t 1),none⟩,
  ⟨(some 4),.mknil 1,none⟩] [1,4])
 (.seq
 (.region [
  ⟨(some 5),.alloc [.nilsl],none⟩] [])
 (.seq
 (.seq
 (.region [
  ⟨(some 7),.load false 1 (.t 3),none⟩,
  ⟨(some 8),.bin .leq (.t 7) (.c (.int .i64 0)),none⟩] [7])
 (.cond (.t 8)
  (.seq
  (.region [
   ⟨(some 9),.load false 1 (.t 5),none⟩,
   ⟨(some 4),.mov (.t 9),none⟩] [0,3,5,8,9])
  (.ret))
  (.skip)))
 (.seq
 (.seq
 (.region [
  ⟨(some 10),.mov (.t 0),none⟩] [0,4,8])
 (.block 0
  (.range (.t 10) [11] zeG zbZ)))
 (zai))))
def zaw:List ARet:=[.tmp 4]
theorem zkl:zT Tryz.prog zcQ (qRo [3])=some (zhs.strip,zaw,21):=by kernel_rfl
def zk9:ACode :=
 .seq
 (.region [
  ⟨(some 2),.rbox (.t 0),none⟩,
  ⟨(some 3),.rbox (.t 1),none⟩,
  ⟨(some 4),.mov (.c (.nilfn)),none⟩] [0,1,4])
 (.seq
 (.region [
  ⟨(some 5),.mkfn (.func zbt) [(.t 3),(.t 2)],none⟩,
  ⟨(some 4),.mov (.t 5),none⟩] [2,3,5])
 (.ret))
def zlD:List ARet:=[.tmp 4]
theorem zq9:zT Tryz.prog zjf (qRo [2,3])=some (zk9.strip,zlD,6):=by kernel_rfl
def zg4:ACode :=
  .seq
 (.seq
 (.region [
  ⟨(some 12),.mov (.t 0),none⟩,
  ⟨(some 13),.mov (.t 5),none⟩,
  ⟨(some 14),.callv (.t 12) [(.t 13)],none⟩] [12,13])
 (.cond (.t 14)
  (.skip)
  (.exit 0)))
 (.block 1
  (.seq
  (.region [
   ⟨(some 15),.fldaddr 1 1 (.t 2),none⟩,
   ⟨(some 16),.load false 1 (.t 15),none⟩,
   ⟨(some 17),.mov (.t 5),none⟩,
   ⟨(some 18),.idx 2 (.t 16) (.t 17),none⟩,
   ⟨(some 19),.load true 2 (.t 18),none⟩,
   ⟨(some 20),.call zaA [(.t 19)],none⟩,
   ⟨(some 6),.mov (.t 20),none⟩] [14,15,16,17,18,19,20])
  (.block 2
   (.seq
   (.region [
    ⟨(some 33),.mov (.t 6),none⟩,
    ⟨(some 34),.len (.t 33),none⟩,
    ⟨(some 35),.bin .eql (.t 34) (.c (.int .i64 0)),none⟩,
    ⟨(some 32),.mov (.t 35),none⟩] [33,34,35])
   (.cond (.t 32)
    (.ret)
    (.seq
    (.draw (
     .step ⟨(some 37),.fldaddr 1 1 (.t 2),none⟩ (
     .step ⟨(some 38),.load false 1 (.t 37),none⟩ (
     .step ⟨(some 39),.mov (.t 5),none⟩ (
     .step ⟨(some 40),.idx 2 (.t 38) (.t 39),none⟩ (
     .step ⟨(some 41),.fldaddr 1 1 (.t 40),none⟩ (
     .step ⟨(some 42),.load false 1 (.t 41),none⟩ (
     .step ⟨(some 43),.fldaddr 1 1 (.t 2),none⟩ (
     .step ⟨(some 44),.load false 1 (.t 43),none⟩ (
     .step ⟨(some 45),.mov (.t 5),none⟩ (
     .step ⟨(some 46),.idx 2 (.t 44) (.t 45),none⟩ (
     .step ⟨(some 47),.fldaddr 1 1 (.t 46),none⟩ (
     .step ⟨(some 48),.load false 1 (.t 47),none⟩ (
     .step ⟨(some 49),.len (.t 48),none⟩ (
     .step ⟨(some 50),.bin .sub (.t 49) (.c (.int .i64 1)),none⟩ (
     .step ⟨(some 51),.idx 8 (.t 42) (.t 50),none⟩ (
     .step ⟨(some 52),.fldaddr 0 1 (.t 51),none⟩ (
     .step ⟨(some 53),.load false 1 (.t 52),none⟩ (
     .step ⟨(some 54),.bin .eql (.t 53) (.c (.int .i64 6)),none⟩ (
     .step ⟨(some 36),.mov (.t 54),none⟩ (
     .done)))))))))))))))))))) [5,32,37,38,39,40,41,42,43,44,45,46,47,48,49,50,51,52,53,54])
    (.cond (.t 36)
     (.region [
      ⟨(some 55),.mov (.t 6),none⟩,
      ⟨(some 56),.idx 1 (.t 55) (.c (.int .i64 0)),none⟩,
      ⟨(some 57),.load false 1 (.t 56),none⟩,
      ⟨(some 5),.mov (.t 57),none⟩] [6,36,55,56,57])
     (.seq
     (.region [
      ⟨(some 22),.mov (.t 4),none⟩,
      ⟨(some 23),.mov (.t 6),none⟩,
      ⟨(some 24),.len (.t 23),none⟩,
      ⟨(some 25),.call zbN [(.t 22),(.t 24)],none⟩,
      ⟨(some 21),.mov (.t 25),none⟩,
      ⟨(some 26),.ext 0 (.t 21),none⟩,
      ⟨(some 27),.ext 1 (.t 21),none⟩,
      ⟨(some 7),.mov (.t 26),none⟩,
      ⟨(some 8),.mov (.t 27),none⟩] [8,21,22,23,24,25,26,27,36])
     (.region [
      ⟨(some 28),.mov (.t 6),none⟩,
      ⟨(some 29),.mov (.t 7),none⟩,
      ⟨(some 30),.idx 1 (.t 28) (.t 29),none⟩,
      ⟨(some 31),.load false 1 (.t 30),none⟩,
      ⟨(some 5),.mov (.t 31),none⟩] [6,7,28,29,30,31])))))))))
def zi7:ACode :=
 .seq
 (.region [
  ⟨(some 9),.load false 1 (.t 1),none⟩,
  ⟨(some 10),.build [.nilsl,.int .i64 0] [(0,1,(.t 9))],none⟩,
  ⟨(some 11),.box (.t 10),none⟩,
  ⟨(some 4),.mov (.t 11),none⟩] [1,9,10,11])
 (.seq
 (.region [
  ⟨(some 5),.mov (.c (.int .i64 0)),none⟩] [])
 (.block 0
  (.loop zg4)))
def znH:List ARet:=[]
theorem zoL:zT Tryz.prog zbt (qRo [])=some (zi7.strip,znH,58):=by kernel_rfl
def zeW:ACode :=
 .seq
 (.region [
  ⟨(some 4),.mov (.c (.int .i64 0)),none⟩,
  ⟨(some 5),.mov (.c (.bool false)),none⟩] [4,5])
 (.seq
 (.seq
 (.draw (
  .step ⟨(some 7),.mov (.t 0),none⟩ (
  .step ⟨(some 8),.xop .nilck [(.t 7)],none⟩ (
  .step ⟨(some 9),.fldaddr 1 1 (.t 8),none⟩ (
  .step ⟨(some 10),.load false 1 (.t 9),none⟩ (
  .step ⟨(some 11),.mov (.t 0),none⟩ (
  .step ⟨(some 12),.xop .nilck [(.t 11)],none⟩ (
  .step ⟨(some 13),.fldaddr 0 1 (.t 12),none⟩ (
  .step ⟨(some 14),.load false 1 (.t 13),none⟩ (
  .step ⟨(some 15),.len (.t 14),none⟩ (
  .step ⟨(some 16),.bin .geq (.t 10) (.t 15),none⟩ (
  .done))))))))))) [7,8,9,10,11,12,13,14,15])
 (.cond (.t 16)
  (.seq
  (.region [
   ⟨(some 4),.mov (.c (.int .i64 0)),none⟩,
   ⟨(some 5),.mov (.c (.bool false)),none⟩] [0,1,16])
  (.ret))
  (.skip)))
 (.seq
 (.draw (
  .step ⟨(some 17),.mov (.t 0),none⟩ (
  .step ⟨(some 18),.xop .nilck [(.t 17)],none⟩ (
  .step ⟨(some 19),.fldaddr 0 1 (.t 18),none⟩ (
  .step ⟨(some 20),.load false 1 (.t 19),none⟩ (
  .step ⟨(some 21),.mov (.t 0),none⟩ (
  .step ⟨(some 22),.xop .nilck [(.t 21)],none⟩ (
  .step ⟨(some 23),.fldaddr 1 1 (.t 22),none⟩ (
  .step ⟨(some 24),.load false 1 (.t 23),none⟩ (
  .step ⟨(some 25),.idx 1 (.t 20) (.t 24),none⟩ (
  .step ⟨(some 26),.load false 1 (.t 25),none⟩ (
  .step ⟨(some 27),.conv .u64 (.t 26),none⟩ (
  .step ⟨(some 28),.mov (.t 1),none⟩ (
  .step ⟨(some 29),.conv .u64 (.t 28),none⟩ (
  .step ⟨(some 30),.bin .rem (.t 27) (.t 29),none⟩ (
  .step ⟨(some 31),.conv .i64 (.t 30),none⟩ (
  .step ⟨(some 6),.mov (.t 31),none⟩ (
  .done))))))))))))))))) [1,4,5,16,17,18,19,20,21,22,23,24,25,26,27,28,29,30,31])
 (.seq
 (.region [
  ⟨(some 32),.mov (.t 0),none⟩,
  ⟨(some 33),.xop .nilck [(.t 32)],none⟩,
  ⟨(some 34),.fldaddr 1 1 (.t 33),none⟩,
  ⟨(some 35),.load false 1 (.t 34),none⟩,
  ⟨(some 36),.bin .add (.t 35) (.c (.int .i64 1)),none⟩,
  ⟨(some 37),.xop .nilck [(.t 32)],none⟩,
  ⟨(some 38),.fldaddr 1 1 (.t 37),none⟩,
  (oS 1 38 36)] [0,32,33,34,35,36,37,38])
 (.seq
 (.region [
  ⟨(some 39),.mov (.t 6),none⟩,
  ⟨(some 4),.mov (.t 39),none⟩,
  ⟨(some 5),.mov (.c (.bool true)),none⟩] [6,39])
 (.ret)))))
def zcF:List ARet:=[.tmp 4,.tmp 5]
theorem zjs:zT Tryz.prog zbN (qRo [])=some (zeW.strip,zcF,40):=by kernel_rfl
def zej:ACode :=
 .seq
 (.region [
  ⟨(some 1),.rbox (.t 0),none⟩,
  ⟨(some 2),.mknil 1,none⟩] [0,2])
 (.seq
 (.region [
  ⟨(some 4),.fldaddr 1 1 (.t 1),none⟩,
  ⟨(some 5),.load false 1 (.t 4),none⟩,
  ⟨(some 6),.fldaddr 1 1 (.t 1),none⟩,
  ⟨(some 7),.load false 1 (.t 6),none⟩,
  ⟨(some 8),.len (.t 7),none⟩,
  ⟨(some 9),.bin .sub (.t 8) (.c (.int .i64 1)),none⟩,
  ⟨(some 10),.idx 8 (.t 5) (.t 9),none⟩,
  ⟨(some 11),.load true 8 (.t 10),none⟩,
  ⟨(some 3),.alloc [.int .i64 0,.int .i64 0,.int .i64 0,.int .i64 0,.int .i64 0,.int .u32 0,.nilsl,.nilsl],none⟩,
  (oS 8 3 11)] [1,4,5,6,7,8,9,10,11])
 (.seq
 (.seq
 (.region [
  ⟨(some 12),.fldaddr 0 1 (.t 3),none⟩,
  ⟨(some 13),.load false 1 (.t 12),none⟩] [12])
 (.block 0
  (.seq
  (.region [
   ⟨(some 15),.bin .eql (.t 13) (.c (.int .i64 6)),none⟩,
   ⟨(some 14),.mov (.t 15),none⟩] [15])
  (.cond (
      .t 14)
   (.seq
   (.region [
    ⟨(some 16),.fldaddr 3 1 (.t 3),none⟩,
    ⟨(some 17),.load false 1 (.t 16),none⟩,
    ⟨(some 18),.buildSl 1 1 [.int .i64 0] [(0,(.t 17))],none⟩,
    ⟨(some 2),.mov (.t 18),none⟩] [3,13,14,16,17,18])
   (.ret))
   (.seq
   (.region [
    ⟨(some 20),.bin .eql (.t 13) (.c (.int .i64 7)),none⟩,
    ⟨(some 19),.mov (.t 20),none⟩] [14,20])
   (.cond (.t 19)
    (.seq
    (.region [
     ⟨(some 21),.fldaddr 3 1 (.t 3),none⟩,
     ⟨(some 22),.load false 1 (.t 21),none⟩,
     ⟨(some 23),.fldaddr 4 1 (.t 3),none⟩,
     ⟨(some 24),.load false 1 (.t 23),none⟩,
     ⟨(some 25),.buildSl 1 2 [.int .i64 0] [(0,(.t 22)),(1,(.t 24))],none⟩,
     ⟨(some 2),.mov (.t 25),none⟩] [3,13,19,21,22,23,24,25])
    (.ret))
    (.seq
    (.region [
     ⟨(some 27),.bin .eql (.t 13) (.c (.int .i64 8)),none⟩,
     ⟨(some 26),.mov (.t 27),none⟩] [13,19,27])
    (.cond (.t 26)
     (.seq
     (.region [
      ⟨(some 28),.fldaddr 7 1 (.t 3),none⟩,
      ⟨(some 29),.load false 1 (.t 28),none⟩,
      ⟨(some 2),.mov (.t 29),none⟩] [3,26,28,29])
     (.ret))
     (.skip)))))))))
 (.seq
 (.region [
  ⟨(some 2),.mknil 1,none⟩] [3,26])
 (.ret))))
def zaQ:List ARet:=[.tmp 2]
theorem ziU:zT Tryz.prog zaA (qRo [1])=some (zej.strip,zaQ,30):=by kernel_rfl
def zj7:ACode :=
 .seq
 (.region [
  ⟨(some 3),.rbox (.t 0),none⟩,
  ⟨(some 6),.mknil 1,none⟩,
  ⟨(some 7),.mov (.c (.int .i64 0)),none⟩] [0,6,7])
 (.seq
 (.seq
 (.region [
  ⟨(some 9),.load true 2 (.t 3),none⟩,
  ⟨(some 10),.call zdW [(.t 9)],none⟩,
  ⟨(some 8),.mov (.t 10),none⟩] [9,10])
 (.seq
 (.region [
  ⟨(some 11),.mov (.t 8),none⟩,
  ⟨(some 12),.bin .neq (.t 11) (.c (.int .i64 0)),none⟩] [11])
 (.cond (.t 12)
  (.seq
  (.region [
   ⟨(some 13),.mov (.t 8),none⟩,
   ⟨(some 6),.mknil 1,none⟩,
   ⟨(some 7),.mov (.t 13),none⟩] [1,2,3,8,12,13])
  (.ret))
  (.skip))))
 (.seq
 (.seq
 (.region [
  ⟨(some 14),.mov (.t 2),none⟩,
  ⟨(some 15),.bin .gtr (.t 14) (.c (.int .i64 65536)),none⟩] [6,7,8,12,14])
 (.cond (.t 15)
  (.seq
  (.region [
   ⟨(some 6),.mknil 1,none⟩,
   ⟨(some 7),.mov (.c (.int .i64 6)),none⟩] [1,2,3,15])
  (.ret))
  (.skip)))
 (.seq
 (.region [
  ⟨(some 16),.load true 2 (.t 3),none⟩,
  ⟨(some 17),.mov (.t 1),none⟩,
  ⟨(some 18),.call zjf [(.t 16),(.t 17)],none⟩,
  ⟨(some 19),.mov (.t 2),none⟩,
  ⟨(some 20),.call zcQ [(.t 18),(.t 19)],none⟩,
  ⟨(some 6),.mov (.t 20),none⟩,
  ⟨(some 7),.mov (.c (.int .i64 0)),none⟩] [1,2,3,15,16,17,18,19,20])
 (.ret))))
def zeR:List ARet:=[.tmp 6,.tmp 7]
theorem zo6:zT Tryz.prog zba (qRo [3])=some (zj7.strip,zeR,21):=by kernel_rfl
def cW (n:Int):List AV:=[.int .u32 n]
def zgs (cs:List Int) (j:Nat) (n:Int):Int × Bool:=if h:j < cs.length then (cs[j] % n,true) else (0,false)
def zkD (cs:List Int) (j:Nat):Nat:=if j < cs.length then j+1 else j
theorem ze4 (cs:List Int) (j:Nat) (n:Int) (hj:j≤1000000) (hn:0 < n) (hn2:n≤1000000) (hw:∀c∈cs,0≤c∧c < 4294967296):z7 Tryz.prog zbN [.ptr 0 0 0 0 0,.int .i64 n] [(0,.row 2 [[encL 1 cW cs,.int .i64 j]] 0)] 1
  (fun v H nx=>v=.tup [.int .i64 (zgs cs j n).1,.bool (zgs cs j n).2]∧H=[(0,.row 2 [[encL 1 cW cs,.int .i64 (zkD cs j)]] 0)]∧nx=1):=by
 refine fn_x zjs rfl ?_;unfold zeW zgs zkD;have hB:=hBig
 by_cases h:j < cs.length
 ·
  have hg:(cs.map cW).getD j []=[.int .u32 cs[j]]:=by simp[Wh,h,cW]
  rw[dif_pos h,if_pos h]
  (repeat first|simp(disch:=try exact dis1) only[evD,Nat.reduceBEq,Nat.reduceAdd,Nat.reduceLeDiff,dT,dF,za,hg,zcF]|with_reducible first|intro _|refine aJ ?_)
  have hc:=hw _ (Wi h);have e1:IntKind.u64.wrap n=n:=IntWalk.u64_in n ⟨by omega,by omega⟩;have e2:IntKind.u64.wrap cs[j]=cs[j]:=IntWalk.u64_in _ ⟨hc.1,by omega⟩
  have e3:(cs[j]).tmod n=cs[j] % n:=by rw[Int.tmod_eq_emod_of_nonneg hc.1]
  have e4:=Int.emod_nonneg cs[j] (show n≠0 by omega);have e5:=Wx cs[j] hn;have e6:IntKind.i64.wrap (cs[j] % n)=cs[j] % n:=zsd (by omega) (by omega);rw[e1,e2,e3,e6];exact⟨by omega,fun _=>⟨rfl,rfl⟩⟩
 ·
  rw[dif_neg h,if_neg h]
  (repeat first|simp(disch:=try exact dis1) only[evD,Nat.reduceBEq,Nat.reduceAdd,Nat.reduceLeDiff,dT,dF,za,zcF]|with_reducible first|intro _|refine aJ ?_)
end Go.Ab
namespace Go.Ab
open Go.RowKit Go.Proofs Go.Proofs.YtjcbhpmmngfmeaaGreat Go.ChangeShapes Go.WideShapes
theorem zAR {w:World} {L:Nat→Prop} {ι:Inj} {v:Value} {l:List Int} (h:VR w L ι v (encL 1 cW l)):∀c∈l,0≤c∧c < 4294967296:=by
 intro c hc;obtain⟨i,hi,rfl⟩:=Wm.1 hc;unfold encL at h;generalize hf:(fun i j=>((l.map cW).getD i []).getD j AV.undef)=f at h;generalize hn:l.length=n at h
 cases h with
 |
  sl _ a _ _ cap _ V h1 h2 h3 h4 h5 =>
  have h6:=h5 i 0 (by omega) (by decide);rw[←hf] at h6;simp only at h6;rw[zo (f:=cW) hi] at h6;generalize V i 0=vi at h6
  cases h6 with
  |
   int _ _ _ h7 =>
   have e1:IntKind.min .u32=0:=by decide
   have e2:IntKind.max .u32=4294967295:=by decide
   have h8:IntKind.min .u32≤l[i]:=h7.1;have h9:l[i]≤IntKind.max .u32:=h7.2;rw[e1] at h8;rw[e2] at h9;exact⟨h8,by omega⟩
 | sl0=>omega
theorem open_words {HH:Type} {enc:TypeId × Value→HH} {w:World} {base b2:Nat} {spare:Nat→Bool} {held:Bool} {L:Nat→Prop} (hL:∀b,¬L b)
  {v:Value} {d:DataW HH} {ps:List MemPlace} (hv:Value.okWide Tryz.prog w .any base 26 v) (h:DataW.Trod enc Tryz.prog w b2 spare held 26 v d ps):∃l:List Int,(∀c∈l,0≤c∧c < 4294967296)∧∀ι,VR w L ι v (encL 1 cW l):=by
 obtain⟨a0,len,cap,rfl⟩:=okWide_slice Tryz.underlying26 hv;obtain⟨fuel,hf⟩:=h;obtain⟨l,v2,h1,_,h3⟩:=zyG Tryz.underlying26 Tryz.underlying22 (by kernel_rfl) hL hf
 have:v2=.slice a0 len cap:=by simp[Value.cells] at h1;exact h1.symm
 subst this;exact⟨l,zAR (h3 noI),h3⟩
end Go.Ab
namespace Go.Ab
open Go.RowKit Go.Proofs
def zkd:ACode:=.seq (.region [ Yai,(oN 3 (.rbox (.t 1))),Yam] [0,1,4]) (.seq (.seq (.region [ (oA 10 2 2),(oL 11 3),(oN 12 (.call zba [(.t 10),(.c (.nilsl)),(.t 11)])),(oM 9 12),(oT 13 0 9),(oT 14 1 9),(oM 5 13),(oM 6 14)] [5,9,10,11,12,13,14]) (.seq (.region [ (oM 15 6),(oC 16 .neq 15 0)] [6,15]) (.cond (.t 16) (.seq (.region [ Yam] [2,3,16]) (.ret)) (.skip)))) (.seq (.seq (.region [ (oL 17 3),(oC 18 .leq 17 0)] [4,16,17]) (.cond (.t 18) (.seq (.region [ (oN 19 (.buildSl 1 1 [.nilsl] [(0,(.c (.nilsl)))])),(oM 4 19)] [2,3,18,19]) (.ret)) (.skip))) (.seq (.region [ (oN 7 (.alloc [.nilsl]))] [4,18]) (.seq (.region [ (oN 8 (.alloc [.nilfn]))] []) (.seq (.region [ (oN 20 (.mkfn (.func zb0) [(.t 2),(.t 3),(.t 7),(.t 8)])),(oS 1 8 20)] [2,3,20]) (.seq (.seq (.region [ (oL 21 8),(oN 22 (.buildSl 1 1 [.int .i64 0] [(0,(.c (.int .i64 0)))])),(oN 23 (.callv (.t 21) [(.t 22)])),(oN 24 (.un .not (.t 23)))] [8,21,22,23]) (.cond (.t 24) (.seq (.region [ Yam] [7,24]) (.ret)) (.skip))) (.seq (.region [ (oL 25 7),(oM 4 25)] [7,24,25]) (.ret))))))))
def zcg:List ARet:=[.tmp 4]
theorem zoX:zT Tryz.prog zdL (qRo [2,3])=some (zkd.strip,zcg,26):=by kernel_rfl
def zgC:ACode:=.seq (.region [ (oL 36 3),(oE 37 36),(oC 38 .leq 37 1024),(oM 6 38)] [3,36,37,38]) (.ret)
def zgb:ACode:=.cond (.t 54) (.seq (.region [ Yao] [0,4,42,43,44,54]) (.ret)) (.skip)
def zgf:ACode:=.seq (.region [ (oB 45 .lss 44 43)] []) (.seq (.cond (.t 45) (.skip) (.exit 0)) (.seq (.block 1 (.seq (.region [ (oI 46 1 42 44),(oL 47 46),(oM 9 47)] [45,46,47]) (.join (.draw ( .step (oM 49 0) ( .step (oM 50 9) ( .alt (oL 48 4) ( .alt (oN 51 (.buildSl 1 1 [.int .i64 0] [(0,(.t 50))])) ( .alt (oN 52 (.append2 1 8 (.t 49) (.t 51))) ( .alt (oN 53 (.callv (.t 48) [(.t 52)])) ( .step (oN 54 (.un .not (.t 53))) ( .done)) ( .stop)) ( .stop)) ( .stop)) ( .alt (oN 51 (.buildSl 1 1 [.int .i64 0] [(0,(.t 50))])) ( .alt (oL 48 4) ( .alt (oN 52 (.append2 1 8 (.t 49) (.t 51))) ( .alt (oN 53 (.callv (.t 48) [(.t 52)])) ( .step (oN 54 (.un .not (.t 53))) ( .done)) ( .stop)) ( .stop)) ( .alt (oN 52 (.append2 1 8 (.t 49) (.t 51))) ( .step (oL 48 4) ( .alt (oN 53 (.callv (.t 48) [(.t 52)])) ( .step (oN 54 (.un .not (.t 53))) ( .done)) ( .stop))) ( .stop))) ( .stop))))) [9,48,49,50,51,52,53]) (zgb)))) (.region [ (oC 55 .add 44 1),(oM 44 55)] [6,54,55])))
def zgd:ACode:=.seq (.region [ (oN 6 (.mov (.c (.bool true))))] [0,4,42,43,44]) (.ret)
def zf8:ACode:=.seq (.seq (.region [ (oM 22 7),(oE 23 22),(oC 24 .eql 23 0),(oM 25 24),(oG 26 25 false (.mov (.t 0))),(oG 27 25 false (.len (.t 26))),(oG 28 25 false (.load false 1 (.t 2))),(oG 29 25 false (.bin .eql (.t 27) (.t 28))),(oN 30 (.pick (.t 25) (.c (.bool true)) (.t 29)))] [2,22,23,24,25,26,27,28,29]) (.cond (.t 30) (.join (.draw ( .step (oM 32 0) ( .alt (oL 31 3) ( .alt (oN 33 (.call zw [(.t 32)])) ( .alt (oN 34 (.buildSl 1 1 [.nilsl] [(0,(.t 33))])) ( .alt (oN 35 (.append 1 24 (.t 31) (.t 34))) ( .alt (oS 1 3 35) ( .done) ( .stop)) ( .stop)) ( .stop)) ( .stop)) ( .alt (oN 33 (.call zw [(.t 32)])) ( .alt (oL 31 3) ( .alt (oN 34 (.buildSl 1 1 [.nilsl] [(0,(.t 33))])) ( .alt (oN 35 (.append 1 24 (.t 31) (.t 34))) ( .alt (oS 1 3 35) ( .done) ( .stop)) ( .stop)) ( .stop)) ( .alt (oN 34 (.buildSl 1 1 [.nilsl] [(0,(.t 33))])) ( .step (oL 31 3) ( .alt (oN 35 (.append 1 24 (.t 31) (.t 34))) ( .alt (oS 1 3 35) ( .done) ( .stop)) ( .stop))) ( .stop))) ( .stop)))) [0,4,7,30,31,32,33,34,35]) (zgC)) (.skip))) (.seq (.region [ (oM 39 7),(oN 40 (.call zcA [(.t 39)]))] [3,6,30,39,40]) (.seq (.seq (.region [ (oM 41 7),(oN 42 (.call zY [(.t 41)])),(oE 43 42),(oK 44 0)] [7,41]) (.block 0 (.loop zgf))) (zgd)))
def ziu:ACode:=.seq (.region [ Yao] [6]) (.join (.draw ( .step (oF 10 1 1 1) ( .step (oM 12 0) ( .step (oM 13 0) ( .step (oE 14 13) ( .step (oC 15 .sub 14 1) ( .alt (oL 11 10) ( .alt (oI 16 1 12 15) ( .alt (oL 17 16) ( .alt (oI 18 2 11 17) ( .alt (oA 19 2 18) ( .step (oN 20 (.callq zaA [(.t 19)])) ( .alt (oN 21 (.call zw [(.t 20)])) ( .step (oM 7 21) ( .done)) ( .stop))) ( .stop)) ( .stop)) ( .stop)) ( .stop)) ( .alt (oI 16 1 12 15) ( .alt (oL 11 10) ( .alt (oL 17 16) ( .alt (oI 18 2 11 17) ( .alt (oA 19 2 18) ( .step (oN 20 (.callq zaA [(.t 19)])) ( .alt (oN 21 (.call zw [(.t 20)])) ( .step (oM 7 21) ( .done)) ( .stop))) ( .stop)) ( .stop)) ( .stop)) ( .alt (oL 17 16) ( .alt (oL 11 10) ( .alt (oI 18 2 11 17) ( .alt (oA 19 2 18) ( .step (oN 20 (.callq zaA [(.t 19)])) ( .alt (oN 21 (.call zw [(.t 20)])) ( .step (oM 7 21) ( .done)) ( .stop))) ( .stop)) ( .stop)) ( .stop)) ( .stop))) ( .stop)))))))) [1,10,11,12,13,14,15,16,17,18,19,20,21]) (zf8))
def zdq:List ARet:=[.tmp 6]
theorem zm2:zT Tryz.prog zb0 (qRoL [1052] [(1,[0,1,2,3,4,5,6,7,8,9,10,12,13,14,15,16,17,18,19,20,21,22,23,24,25,26,27,28,29,30,31,32,33,34,35,36,37,38,39,40,41,42,43,44,45,46,47,48,49,50,51,52,53,54,55,56,57,58,59,60,61,62,63,64,65,66,67,68,69,70,71,72,73,74,75,76,77,78,79,80,81,82,83,84,85,86,87,88,89,90,91,92,93,94,95,96,97,98,99,100,101,102,103,104,105,106,107,108,109,110,111,112,113,114,115,116,117,118,119,120,121,122,123,124,125,126,127,128,129,130,131,132,133,134,135,136,137,138,139,140,141,142,143,144,145,146,147,148,149]),(3,[0,1,3,4,5,6,7,8,9,10,11,12,13,14,15,16,17,18,19,20,21,22,23,24,25,26,27,28,29,30,31,32,33,34,35,36,37,38,39,40,41,42,43,44,45,46,47,48,49,50,51,52,53,54,55,56,57,58,59,60,61,62,63,64,65,66,67,68,69,70,71,72,73,74,75,76,77,78,79,80,81,82,83,84,85,86,87,88,89,90,91,92,93,94,95,96,97,98,99,100,101,102,103,104,105,106,107,108,109,110,111,112,113,114,115,116,117,118,119,120,121,122,123,124,125,126,127,128,129,130,131,132,133,134,135,136,137,138,139,140,141,142,143,144,145,146,147,148,149])])=some (ziu.strip,zdq,56):=by kernel_rfl
section
variable {σ:Type} (next:σ→Option (List AV × σ)) (val:σ→Int)
def itv:Nat→σ→List Int
 | 0,_=>[]
 |
  k+1,s=>match next s with
  | none=>[]
  | some (_,s')=>val s::itv k s'
def itn:Nat→σ→Option σ
 | 0,s=>some s
 |
  k+1,s=>match next s with
  | none=>none
  | some (_,s')=>itn k s'
theorem zqU {next:σ→Option (List AV × σ)}:∀ {k:Nat} {s0 s s':σ} {x:List AV},itn next k s0=some s→next s=some (x,s')→itn next (k+1) s0=some s'
 |
  0,s0,s,s',x,h1,h2=>by
  simp only[itn,Wy] at h1;subst h1;simp[itn,h2]
 |
  k+1,s0,s,s',x,h1,h2=>by
  rw[itn] at h1 ⊢
  cases h:next s0 with
  | none=>rw[h] at h1;cases h1
  |
   some p =>
   rw[h] at h1;simp only at h1 ⊢;exact zqU h1 h2
theorem ztd:∀(k:Nat) (s:σ),(itv next val k s).length≤k
 | 0,_=>Wg _
 |
  k+1,s=>by
  rw[itv];split
  · exact Wc _
  · simpa using ztd k _
end
def zjR:List Int→AH
 | []=>[(0,.row 1 [[.nilsl]] 0)]
 | x::l=>[(0,.row 1 [[.own 1 0 0 0 (x::l).length]] 0),(1,.row 1 ((x::l).map cI) 0)]
theorem QR {p q:Prop}(k:q)(h:Im q p:=by(repeat first|simp(disch:=try exact dis1) only[evD,Nat.reduceBEq,Nat.reduceAdd,Nat.reduceLeDiff,dT,zaw] | ((with_reducible apply Im.i);intro _) | ((with_reducible apply Im.a);omega));exact Im.r):p:=h k
theorem Qr {p q:Prop}(k:q)(h:Im q p:=by(repeat first|simp(disch:=try exact dis1) only[evD,Nat.reduceBEq,Nat.reduceAdd,Nat.reduceLeDiff,zaw] | ((with_reducible apply Im.i);intro _) | ((with_reducible apply Im.a);omega));exact Im.r):p:=h k
theorem Qao {p:Prop}(h:p:=by(try simp only[evWB,Nat.reduceBEq,Nat.reduceAdd,Nat.reduceSub,Nat.reduceLeDiff,Nat.reduceLT,implies_true])<;>exact fin1):p:=h
theorem Qaq {p:Prop}(h:p:=by(try simp only[evWB,Nat.reduceBEq,Nat.reduceAdd,Nat.reduceSub,Nat.reduceLeDiff,Nat.reduceLT,implies_true,zjR])<;>exact fin1):p:=h
theorem Qar {p:Prop}(h:p:=by(try simp only[evWB,Nat.reduceBEq,Nat.reduceAdd,Nat.reduceSub,Nat.reduceLeDiff,Nat.reduceLT,implies_true,zjR,List.length_append,List.map_append,List.map_cons,List.map_nil,List.length_cons,List.length_nil,cI])<;>exact fin1):p:=h
theorem zkw {σ:Type} {f:FuncId} {caps:List AV} {next:σ→Option (List AV × σ)} {ok:σ→Prop} {s0:σ} (hgood:zcW Tryz.prog f=true) (hcaps:∀c∈caps,AV.Below 0 c)
  (hit:ItOk Tryz.prog f caps [] 0 next ok s0 (fun s _ _=>match s with|some s=>next s=none|none=>True)) (val:σ→Int) (hval:∀s x s',next s=some (x,s')→x=[.int .i64 (val s)]) (n:Int) (hn:n≤1000000)
  (hok:∀k s,k < n.toNat→itn next k s0=some s→ok s):zk Tryz.prog zcQ [.fn (.func f) caps,.int .i64 n] (·=za (itv next val n.toNat s0)):=by
 refine fn_x zkl rfl ?_;unfold zhs;have hB:=hBig
 by_cases h0:n≤0
 ·
  have e:n.toNat=0:=by omega
  rw[e]
  (refine QR ?_;intros)
  exact⟨_,.nil0 _ _ _,rfl⟩
 ·
  (refine Qk ?_;intros)
  generalize hR:itv next val n.toNat s0=R
  have hRl:R.length≤n.toNat:=by rw[←hR];exact ztd _ _ _ _
  refine zrC hgood hcaps hit (fun s x s' h=>by rw[hval s x s' h];rfl) [(3,.iptr 1 fun j=>[AV.int .i64 n].getD j .undef),(5,.ptr 0 0 0 0 0)] zjR 2
   (fun a s=>a++itv next val (n.toNat - a.length) s=R∧a.length < n.toNat∧itn next a.length s0=some s) (fun a e=>e=.exit 0∧a=R) []
   (fun a s h=>hok _ _ h.2.1 h.2.2) ⟨hR,by simp;omega,rfl⟩ ?_ ?_ ?_ ?_
  · simp only[zjR];exact(Ent.tab [(0,1,0)] [] rfl Qao Qao)
  ·
   rintro a s x s' ⟨h1,h2,h3⟩ hx wf;have hxv:=hval _ _ _ hx;subst hxv;clear wf;simp only[ziW];unfold zeG
   have hm:n.toNat - a.length=(n.toNat - a.length - 1)+1:=by omega
   rw[hm,itv,hx] at h1;simp only at h1;have h4:=zqU h3 hx;generalize val s=v at *
   cases a with
   |
    nil =>
    simp only[zjR]
    (refine Qa ?_;intros)
    unfold zbZ
    (refine Qa ?_;intros)
    (refine zx (fun hc=>?_) (fun hc=>?_))<;>(try simp only[dcd] at hc)
    ·
     (refine Qa ?_;intros)
     have e:n.toNat - ([]:List Int).length - 1=0:=by simp only[Wa];omega
     exact⟨[v],by rw[←h1,e,itv];rfl,(Ent.tab [(0,0,0),(1,3,0)] [] rfl Qaq Qaq)⟩
    ·
     (refine Qa ?_;intros)
     refine⟨[v],⟨by rw[←h1];rfl,by simp only[Wd,Wa];omega,h4⟩,(Ent.tab [(0,0,0),(1,3,0)] [] rfl Qaq Qaq)⟩
   |
    cons y l =>
    simp only[zjR]
    have h5:l.length+1 < n.toNat:=by simpa using h2
    (refine Qa ?_;intros)
    unfold zbZ
    (refine Qa ?_;intros)
    (refine zx (fun hc=>?_) (fun hc=>?_))<;>(try simp only[dcd] at hc)
    ·
     (refine Qa ?_;intros)
     have e:n.toNat - (y::l).length - 1=0:=by simp only[Wd];omega
     exact⟨y::(l++[v]),by rw[←h1,e,itv];rfl,(Ent.tab [(0,0,0),(1,1,1)] [] rfl Qar Qar)⟩
    ·
     (refine Qa ?_;intros)
     have e:(y::(l++[v])).length=(y::l).length+1:=by simp
     exact⟨y::(l++[v]),⟨by rw[←h1,e];simp[Nat.sub_sub],by rw[e];simp only[Wd] at h2 hc ⊢;omega,by rw[e];exact h4⟩,(Ent.tab [(0,0,0),(1,1,1)] [] rfl Qar Qar)⟩
  ·
   rintro a s ⟨h1,h2,h3⟩ hx
   have hm:n.toNat - a.length=(n.toNat - a.length - 1)+1:=by omega
   rw[hm,itv,hx] at h1;simp only[List.append_nil] at h1;subst h1
   cases a with
   |
    nil =>
    simp only[zjR]
    (refine Qa ?_;intros)
    unfold zai
    (refine Qr ?_;intros)
    exact⟨_,.nil0 _ _ _,rfl⟩
   |
    cons y l =>
    simp only[zjR]
    (refine Qa ?_;intros)
    unfold zai
    (refine Qr ?_;intros)
    exact⟨_,zaV (l:=y::l) trivial rfl (by omega),rfl⟩
  ·
   rintro a e ⟨rfl,rfl⟩
   cases a with
   |
    nil =>
    simp only[zjR]
    (refine Qa ?_;intros)
    unfold zai
    (refine Qr ?_;intros)
    exact⟨_,.nil0 _ _ _,rfl⟩
   |
    cons y l =>
    simp only[zjR]
    (refine Qa ?_;intros)
    unfold zai
    (refine Qr ?_;intros)
    exact⟨_,zaV (l:=y::l) trivial rfl (by omega),rfl⟩
end Go.Ab
namespace Go.Ab
open Go.RowKit Go.Proofs
def zg6:List St→Bool
 | []=>true
 | x::l=>(zlQ x == l.isEmpty)&&zg6 l
def inN (n:Int) (t:Int):Bool:=decide (0≤t∧t < n)
def zy (l:List St):List Int:=match l.getLast? with
 | none=>[]
 | some s=>zhf s
def zdx (l:List St) (n:Int):Bool := !l.isEmpty&&(zg6 l&&(zy l).all (inN n))
theorem ztR {l:List St} {i:Nat} (h:i < l.length):zg6 (l.drop i)=((zlQ l[i] == decide ((i:Int)=(l.length:Int) - 1))&&zg6 (l.drop (i+1))):=by
 rw[Wj h,zg6]
 congr 2
 by_cases hi:i+1 < l.length
 · rw[Wj hi,decide_eq_false (by omega)];rfl
 · rw[Wl (by omega),decide_eq_true (by omega)];rfl
theorem zyZ {l:List Int} {i:Nat} {p:Int→Bool} (h:i < l.length):(l.drop i).all p=(p l[i]&&(l.drop (i+1)).all p):=by rw[Wj h,Ws]
theorem zgh {l:List St} (h:l.length - 1 < l.length):zy l=zhf l[l.length - 1]:=by unfold zy;rw[Wz,Wf h]
theorem znt (b:Bl) (n:Int):zk Tryz.prog zhv [.agg b.cells,.int .i64 n] (·=.bool (zdx b.stmts n)):=by
 refine fn_x zn1 rfl ?_;unfold zjr;have hB:=hBig;obtain⟨ad,l⟩:=b;simp only[Bl.cells,zdx]
 by_cases h0:l.length=0
 ·
  obtain rfl:l=[]:=Wn h0
  (repeat first|simp(disch:=try exact dis1) only[evD,Nat.reduceBEq,Nat.reduceAdd,Nat.reduceLeDiff,fldP,dT,Wa,zbB]|with_reducible first|intro _|refine aJ ?_)
  exact⟨_,.bool _ _,rfl⟩
 have he:l.isEmpty=false:=by cases l with|nil=>simp at h0|cons a l=>rfl
 rw[he]
 (refine Qi ?_;intros)
 refine zm (fun i:Nat=>([(1,.int .i64 n),(2,encP 2 [.int .u32 ad,encL 8 St.cells l]),(5,.int .i64 i)],[])) 0 (fun i=>i≤l.length∧zg6 (l.drop i)=zg6 l) (fun i=>l.length - i) 0 ⟨Wc _,rfl⟩ (Ent.keep rfl fin5) ?_;rintro i ⟨hi,hgo⟩ wf;unfold zg2
 by_cases hl:i < l.length
 ·
  rw[ztR hl] at hgo
  (repeat first|simp(disch:=try exact dis1) only[evD,Nat.reduceBEq,Nat.reduceAdd,Nat.reduceLeDiff,fldP,dT,zo hl,St.len,St.eight]|with_reducible first|intro _|refine aJ ?_)
  refine zbS (zg (zuh l[i]) rfl) ?_;generalize zlQ l[i]=q at hgo
  by_cases hx:(i:Int)=(l.length:Int) - 1
  ·
   rw[decide_eq_true hx] at hgo
   cases q with
   |
    true =>
    (repeat first|simp(disch:=try exact dis1) only[evD,Nat.reduceBEq,Nat.reduceAdd,Nat.reduceLeDiff,fldP,dT]|with_reducible first|intro _|refine aJ ?_)
    exact⟨i+1,⟨by omega,by simpa using hgo⟩,by omega,Ent.keep rfl fin5⟩
   |
    false =>
    replace hgo:zg6 l=false:=by rw[←hgo];rfl
    rw[hgo]
    (repeat first|simp(disch:=try exact dis1) only[evD,Nat.reduceBEq,Nat.reduceAdd,Nat.reduceLeDiff,fldP,dT,zbB]|with_reducible first|intro _|refine aJ ?_)
    exact⟨_,.bool _ _,rfl⟩
  ·
   rw[decide_eq_false hx] at hgo
   cases q with
   |
    false =>
    (refine Qi ?_;intros)
    exact⟨i+1,⟨by omega,by simpa using hgo⟩,by omega,Ent.keep rfl fin5⟩
   |
    true =>
    replace hgo:zg6 l=false:=by rw[←hgo];rfl
    rw[hgo]
    (repeat first|simp(disch:=try exact dis1) only[evD,Nat.reduceBEq,Nat.reduceAdd,Nat.reduceLeDiff,fldP,dF,zbB]|with_reducible first|intro _|refine aJ ?_)
    exact⟨_,.bool _ _,rfl⟩
 rw[Wl (by omega),zg6] at hgo;rw[←hgo]
 have hlast:l.length - 1 < l.length:=by omega
 have hidx:(((l.length:Nat):Int) - 1).toNat=l.length - 1:=by omega
 rw[zgh hlast]
 (refine Qi ?_;intros)
 unfold zgU
 (repeat first|simp(disch:=try exact dis1) only[evD,Nat.reduceBEq,Nat.reduceAdd,Nat.reduceLeDiff,fldP,dT,hidx,zo hlast,St.len,St.eight]|with_reducible first|intro _|refine aJ ?_)
 refine zc (zg (zo5 l[l.length - 1]) rfl) ?_;generalize zhf l[l.length - 1]=t;generalize hR:t.all (inN n)=R
 (refine Qa ?_;intros)
 refine zm (fun i:Nat=>([(1,.int .i64 n),(6,za t),(7,.int .i64 i)],[])) 0 (fun i=>i≤t.length∧(t.drop i).all (inN n)=R) (fun i=>t.length - i) 0 ⟨Wc _,hR⟩ (Ent.keep rfl fin5) ?_;rintro i ⟨hi,hgo⟩ wf;unfold zg9
 by_cases hl:i < t.length
 ·
  rw[zyZ hl] at hgo;unfold inN at hgo
  by_cases q0:0≤t[i]
  ·
   by_cases q1:t[i] < n
   ·
    rw[decide_eq_true ⟨q0,q1⟩,Bool.true_and] at hgo
    (repeat first|simp(disch:=try exact dis1) only[evD,Nat.reduceBEq,Nat.reduceAdd,Nat.reduceLeDiff,fldP,dT,dF,za,zo hl]|with_reducible first|intro _|refine aJ ?_)
    exact⟨i+1,⟨by omega,hgo⟩,by omega,Ent.keep rfl fin5⟩
   ·
    rw[decide_eq_false (fun h=>q1 h.2),Bool.false_and] at hgo;subst hgo
    (repeat first|simp(disch:=try exact dis1) only[evD,Nat.reduceBEq,Nat.reduceAdd,Nat.reduceLeDiff,fldP,dT,dF,za,zo hl,zbB]|with_reducible first|intro _|refine aJ ?_)
    exact⟨_,.bool _ _,rfl⟩
  ·
   rw[decide_eq_false (fun h=>q0 h.1),Bool.false_and] at hgo;subst hgo
   (repeat first|simp(disch:=try exact dis1) only[evD,Nat.reduceBEq,Nat.reduceAdd,Nat.reduceLeDiff,fldP,dT,dF,za,zo hl,zbB]|with_reducible first|intro _|refine aJ ?_)
   exact⟨_,.bool _ _,rfl⟩
 ·
  rw[Wl (by omega)] at hgo
  replace hgo:R=true:=by rw[←hgo];rfl
  subst hgo
  (refine QO ?_;intros)
  unfold zgT
  (repeat first|simp(disch:=try exact dis1) only[evD,Nat.reduceBEq,Nat.reduceAdd,Nat.reduceLeDiff,zbB]|with_reducible first|intro _|refine aJ ?_)
  exact⟨_,.bool _ _,rfl⟩
def zgZ:List St→Int
 | []=>0
 | s::l=>if s.check≠0 then s.check else zgZ l
def zjl:List Bl→Int
 | []=>0
 | b::l=>if zgZ b.stmts≠0 then zgZ b.stmts else zjl l
def zmv (g:G):Int:=if (!g.blocks.isEmpty&&g.blocks.all fun b=>zdx b.stmts g.blocks.length)=true then zjl g.blocks else 18
theorem zoU {l:List St} {i:Nat} (h:i < l.length):zgZ (l.drop i)=if l[i].check≠0 then l[i].check else zgZ (l.drop (i+1)):=by rw[Wj h,zgZ]
theorem zor {l:List Bl} {i:Nat} (h:i < l.length):zjl (l.drop i)=if zgZ l[i].stmts≠0 then zgZ l[i].stmts else zjl (l.drop (i+1)):=by rw[Wj h,zjl]
structure fewB (g:G):Prop where
 blocks:g.blocks.length≤12
 stmts:∀b∈g.blocks,b.stmts.length≤8
structure PredT (fv:AV) (l:List St) (p:St→Bool):Prop where
 ex:∃f caps,fv=.fn (.func f) caps∧zcW Tryz.prog f=true∧zt caps=true∧∀s∈l,zk Tryz.prog f ([.agg s.cells]++caps) (·=.bool (p s))
theorem zth {fv:AV} {l:List St} {p:St→Bool} (hp:PredT fv l p) {s:St} (hs:s∈l) {H:AH} {nx:Nat} {k:AV→AH→Nat→Prop} (hk:k (.bool (p s)) H nx):zko Tryz.prog fv [.agg s.cells] H nx k:=by obtain⟨f,caps,rfl,hg,hf,hx⟩:=hp.ex;rw[zhG];refine⟨hg,zc (zg (hx s hs) ?_) hk⟩;simp only[WA,List.nil_append,Ws,WB];exact⟨rfl,zcI hf⟩
theorem zuP {fv:AV} {l:List St} {p:St→Bool} (hp:PredT fv l p) {H H2:AH} {σ:Nat→Nat→Option (Nat × Nat × Nat)} {D:Nat→Nat→Prop} {t:Bool}:Vw H H2 σ D t fv fv:=by
 obtain⟨f,caps,rfl,hg,hf,hx⟩:=hp.ex
 refine .fn _ _ _ _ rfl fun i a b h1 h2=>?_
 rw[h1] at h2;cases h2;exact zco (zby hf h1)
theorem QS {p q:Prop}(k:q)(h:Im q p:=by(repeat first|simp(disch:=try exact dis1) only[evD,Nat.reduceBEq,Nat.reduceAdd,Nat.reduceLeDiff,zan] | ((with_reducible apply Im.i);intro _) | ((with_reducible apply Im.a);omega));exact Im.r):p:=h k
theorem zjY (l:List St) (fv:AV) (p:St→Bool) (hp:PredT fv l p):zk Tryz.prog zas [encL 8 St.cells l,fv] (·=.int .i64 (idxI (l.findIdx? p))):=by
 refine fn_x zc3 rfl ?_;unfold zbm;have hB:=hBig
 (refine Qa ?_;intros)
 refine zm (fun i:Nat=>([(0,encL 8 St.cells l),(1,fv),(7,.int .i64 l.length),(8,.int .i64 i)],[])) 0 (fun i=>i≤l.length∧∀j (h:j < l.length),j < i→p l[j]=false) (fun i=>l.length - i) 0 ⟨Wc _,fun j _ h=>by omega⟩ (Ent.keep rfl fin5) ?_;intro i ⟨hi,hno⟩ wf;unfold zaZ
 (refine Qa ?_;intros)
 (refine zx (fun h=>?_) (fun h=>?_))<;>(try simp only[dcd] at h)
 ·
  have hi':i < l.length:=by omega
  (repeat first|simp(disch:=try exact dis1) only[evD,Nat.reduceBEq,Nat.reduceAdd,Nat.reduceLeDiff,zo hi',St.len,St.eight]|with_reducible first|intro _|refine aJ ?_)
  refine zth hp (Wi hi') ?_
  (refine Qa ?_;intros)
  (refine zx (fun h2=>?_) (fun h2=>?_))<;>(try simp only[dcd] at h2)
  ·
   (refine QS ?_;intros)
   have e:l.findIdx? p=some i:=by rw[Wo];exact⟨hi',h2,fun j hj=>by rw[hno j (by omega) hj];simp⟩
   rw[e];exact⟨_,.int _ _ _,rfl⟩
  ·
   (refine Qa ?_;intros)
   refine⟨i+1,⟨by omega,fun j hj hji=>?_⟩,by omega,Ent.keep rfl fin5⟩
   by_cases hje:j=i
   · subst hje;simpa using h2
   · exact hno j hj (by omega)
 ·
  unfold zaY
  (refine QS ?_;intros)
  have e:l.findIdx? p=none:=by rw[Wp];intro x hx;obtain⟨j,hj,rfl⟩:=Wm.1 hx;exact hno j hj (by omega)
  rw[e];exact⟨_,.int _ _ _,rfl⟩
theorem zz3 {l:List St} {p:St→Bool}:decide (idxI (l.findIdx? p) ≥ 0)=l.any p:=by
 cases h:l.findIdx? p with
 |
  none =>
  have:=Wp.1 h;rw[decide_eq_false (by simp[idxI])];symm;rw[WC];intro x hx;rw[this x hx];simp
 |
  some i =>
  obtain⟨h1,h2,_⟩:=Wo.1 h;rw[decide_eq_true (by simp[idxI])];exact(zq3 h1 h2).symm
theorem zib (l:List St) (fv:AV) (p:St→Bool) (hp:PredT fv l p):zk Tryz.prog zae [encL 8 St.cells l,fv] (·=.bool (l.any p)):=by
 refine fn_x zcz rfl ?_;unfold zaX
 (refine Qa ?_;intros)
 refine zc (zM (D:=noR) (zjY l fv p hp) (.cons (zao rfl) (.cons (zuP hp) .nil)) (.inl rfl)) ?_
 (repeat first|simp(disch:=try exact dis1) only[evD,Nat.reduceBEq,Nat.reduceAdd,Nat.reduceLeDiff,za4]|with_reducible first|intro _|refine aJ ?_)
 refine⟨_,.bool _ _,?_⟩;rw[←zz3]
structure PredI (fv:AV) (l:List Int) (p:Int→Bool):Prop where
 ex:∃f caps,fv=.fn (.func f) caps∧zcW Tryz.prog f=true∧zt caps=true∧∀s∈l,zk Tryz.prog f ([.int .i64 s]++caps) (·=.bool (p s))
theorem zua {fv:AV} {l:List Int} {p:Int→Bool} (hp:PredI fv l p) {s:Int} (hs:s∈l) {H:AH} {nx:Nat} {k:AV→AH→Nat→Prop} (hk:k (.bool (p s)) H nx):zko Tryz.prog fv [.int .i64 s] H nx k:=by obtain⟨f,caps,rfl,hg,hf,hx⟩:=hp.ex;rw[zhG];refine⟨hg,zc (zg (hx s hs) ?_) hk⟩;simp only[WA,List.nil_append,Ws,WB];exact⟨rfl,zcI hf⟩
theorem zvb {fv:AV} {l:List Int} {p:Int→Bool} (hp:PredI fv l p) {H H2:AH} {σ:Nat→Nat→Option (Nat × Nat × Nat)} {D:Nat→Nat→Prop} {t:Bool}:Vw H H2 σ D t fv fv:=by
 obtain⟨f,caps,rfl,hg,hf,hx⟩:=hp.ex
 refine .fn _ _ _ _ rfl fun i a b h1 h2=>?_
 rw[h1] at h2;cases h2;exact zco (zby hf h1)
theorem Qo {p q:Prop}(k:q)(h:Im q p:=by(repeat first|simp(disch:=try exact dis1) only[evD,Nat.reduceBEq,Nat.reduceAdd,Nat.reduceLeDiff,za] | ((with_reducible apply Im.i);intro _) | ((with_reducible apply Im.a);omega));exact Im.r):p:=h k
theorem QU {p q:Prop}(k:q)(h:Im q p:=by(repeat first|simp(disch:=try exact dis1) only[evD,Nat.reduceBEq,Nat.reduceAdd,Nat.reduceLeDiff,zag] | ((with_reducible apply Im.i);intro _) | ((with_reducible apply Im.a);omega));exact Im.r):p:=h k
theorem zjU (l:List Int) (fv:AV) (p:Int→Bool) (hp:PredI fv l p):zk Tryz.prog zak [za l,fv] (·=.int .i64 (idxI (l.findIdx? p))):=by
 refine fn_x zcE rfl ?_;unfold zbx;have hB:=hBig
 (refine Qo ?_;intros)
 refine zm (fun i:Nat=>([(0,za l),(1,fv),(7,.int .i64 l.length),(8,.int .i64 i)],[])) 0 (fun i=>i≤l.length∧∀j (h:j < l.length),j < i→p l[j]=false) (fun i=>l.length - i) 0 ⟨Wc _,fun j _ h=>by omega⟩ (Ent.keep rfl fin5) ?_;intro i ⟨hi,hno⟩ wf;unfold zbf
 (refine Qa ?_;intros)
 (refine zx (fun h=>?_) (fun h=>?_))<;>(try simp only[dcd] at h)
 ·
  have hi':i < l.length:=by omega
  (repeat first|simp(disch:=try exact dis1) only[evD,Nat.reduceBEq,Nat.reduceAdd,Nat.reduceLeDiff,za,zo hi']|with_reducible first|intro _|refine aJ ?_)
  refine zua hp (Wi hi') ?_
  (refine Qa ?_;intros)
  (refine zx (fun h2=>?_) (fun h2=>?_))<;>(try simp only[dcd] at h2)
  ·
   (refine QU ?_;intros)
   have e:l.findIdx? p=some i:=by rw[Wo];exact⟨hi',h2,fun j hj=>by rw[hno j (by omega) hj];simp⟩
   rw[e];exact⟨_,.int _ _ _,rfl⟩
  ·
   (refine Qa ?_;intros)
   refine⟨i+1,⟨by omega,fun j hj hji=>?_⟩,by omega,Ent.keep rfl fin5⟩
   by_cases hje:j=i
   · subst hje;simpa using h2
   · exact hno j hj (by omega)
 ·
  unfold zbj
  (refine QU ?_;intros)
  have e:l.findIdx? p=none:=by rw[Wp];intro x hx;obtain⟨j,hj,rfl⟩:=Wm.1 hx;exact hno j hj (by omega)
  rw[e];exact⟨_,.int _ _ _,rfl⟩
theorem zz1 {l:List Int} {p:Int→Bool}:decide (idxI (l.findIdx? p) ≥ 0)=l.any p:=by
 cases h:l.findIdx? p with
 |
  none =>
  have:=Wp.1 h;rw[decide_eq_false (by simp[idxI])];symm;rw[WC];intro x hx;rw[this x hx];simp
 |
  some i =>
  obtain⟨h1,h2,_⟩:=Wo.1 h;rw[decide_eq_true (by simp[idxI])];exact(zq3 h1 h2).symm
theorem zic (l:List Int) (fv:AV) (p:Int→Bool) (hp:PredI fv l p):zk Tryz.prog zbk [za l,fv] (·=.bool (l.any p)):=by
 refine fn_x ze2 rfl ?_;unfold zb4
 (refine Qa ?_;intros)
 refine zc (zM (D:=noR) (zjU l fv p hp) (.cons (zao rfl) (.cons (zvb hp) .nil)) (.inl rfl)) ?_
 (repeat first|simp(disch:=try exact dis1) only[evD,Nat.reduceBEq,Nat.reduceAdd,Nat.reduceLeDiff,zb3]|with_reducible first|intro _|refine aJ ?_)
 refine⟨_,.bool _ _,?_⟩;rw[←zz1]
theorem QD {p q:Prop}(k:q)(h:Im q p:=by(repeat first|simp(disch:=try exact dis1) only[evD,Nat.reduceBEq,Nat.reduceAdd,Nat.reduceLeDiff,zF] | ((with_reducible apply Im.i);intro _) | ((with_reducible apply Im.a);omega));exact Im.r):p:=h k
theorem zxe (l:List Int) (hl:l.length≤100000000):z7 Tryz.prog zw [za l] [] 0 (fun v H nx=>v=.own 0 0 0 0 l.length∧H=[(0,.row 1 (l.map cI) 0)]∧nx=1):=by
 refine z8 (fn_x zbs rfl ?_);unfold zaH za;have hB:=hBig
 have hel:∀H,zea 1 (encL 1 (fun n=>[.int .i64 n]) l) H=some (l.map cI):=fun H=>zv6
 (repeat first|simp(disch:=try exact dis1) only[evD,Nat.reduceBEq,Nat.reduceAdd,Nat.reduceLeDiff,zrL]|with_reducible first|intro _|refine aJ ?_)
 cases h0:(l.length == 0) with
 |
  true =>
  have e:l=[]:=Wn (by simpa using h0);subst e
  (refine Qa ?_;intros)
  rename_i b;cases b
  ·
   (repeat first|simp(disch:=try exact dis1) only[evD,Nat.reduceBEq,Nat.reduceAdd,Nat.reduceLeDiff,hel,zF]|with_reducible first|intro _|refine aJ ?_)
   exact⟨.own 0 0 0 0 0,[(0,.row 1 [] 0)],1,(Ent.tab [(0,1,1)] [] rfl Qan Qan),rfl,rfl,rfl⟩
  ·
   (refine QD ?_;intros)
   exact⟨.own 0 0 0 0 0,[(0,.row 1 [] 0)],1,(Ent.tab [(0,1,0)] [] rfl Qan Qan),rfl,rfl,rfl⟩
 |
  false =>
  (repeat first|simp(disch:=try exact dis1) only[evD,Nat.reduceBEq,Nat.reduceAdd,Nat.reduceLeDiff,hel,zF]|with_reducible first|intro _|refine aJ ?_)
  exact⟨.own 0 0 0 0 l.length,[(0,.row 1 (l.map cI) 0)],1,(Ent.tab [(0,1,1)] [] rfl Qan Qan),rfl,rfl,rfl⟩
theorem renI {ρ:Nat→Nat} {l:List Int} {g:Nat}:AObj.ren ρ (.row 1 (l.map cI) g)=.row 1 (l.map cI) g:=by simp only[AObj.ren];rw[zuE (zfU fun _=>rfl)]
theorem QE {p q:Prop}(k:q)(h:Im q p:=by(repeat first|simp(disch:=try exact dis1) only[evD,Nat.reduceBEq,Nat.reduceAdd,Nat.reduceLeDiff,dT,dF,fldP,za,St.cells,zbG] | ((with_reducible apply Im.i);intro _) | ((with_reducible apply Im.a);omega));exact Im.r):p:=h k
theorem zm5 (b:Bl) (hc:∀s∈b.stmts,s.cases.length≤100000000):zk Tryz.prog zgk [.agg b.cells] (·=za (zy b.stmts)):=by
 refine fn_x zmY rfl ?_;unfold ziF;have hB:=hBig;obtain⟨ad,l⟩:=b;simp only at hc;simp only[Bl.cells]
 by_cases h0:l.length=0
 ·
  obtain rfl:l=[]:=Wn h0
  (repeat first|simp(disch:=try exact dis1) only[evD,Nat.reduceBEq,Nat.reduceAdd,Nat.reduceLeDiff,fldP,dT,Wa,zbG]|with_reducible first|intro _|refine aJ ?_)
  exact⟨_,zaV (l:=[]) trivial rfl (by simp only[Wa];omega),rfl⟩
 have hlast:l.length - 1 < l.length:=by omega
 have hidx:(((l.length:Nat):Int) - 1).toNat=l.length - 1:=by omega
 have hcs:=hc _ (Wi hlast);have hg:=zo (f:=St.cells) (d:=[]) hlast;rw[zgh hlast];generalize l[l.length - 1]=s at hg hcs;obtain⟨op,var,width,next,els,tgt,e,cs⟩:=s;simp only[St.cells] at hg hcs;unfold zhf;simp only
 (repeat first|simp(disch:=try exact dis1) only[evD,Nat.reduceBEq,Nat.reduceAdd,Nat.reduceLeDiff,fldP,dT,dF,hidx,hg]|with_reducible first|intro _|refine aJ ?_)
 by_cases h6:op=6
 ·
  rw[if_pos h6]
  (refine QE ?_;intros)
  exact⟨_,zaV (l:=[next]) trivial rfl (by simp only[Wr];omega),rfl⟩
 rw[if_neg h6]
 by_cases h7:op=7
 ·
  rw[if_pos h7]
  (refine QE ?_;intros)
  exact⟨_,zaV (l:=[next,els]) trivial rfl (by simp only[Wd,Wa];omega),rfl⟩
 rw[if_neg h7]
 by_cases h8:op=8
 ·
  rw[if_pos h8]
  (repeat first|simp(disch:=try exact dis1) only[evD,Nat.reduceBEq,Nat.reduceAdd,Nat.reduceLeDiff,dT,dF,fldP,St.cells]|with_reducible first|intro _|refine aJ ?_)
  refine zbq [] 0 _ (zxe cs hcs) rfl rfl Qao Qao ?_;rintro _ _ _ ⟨rfl,rfl,rfl⟩
  (repeat first|simp(disch:=try exact dis1) only[evD,Nat.reduceBEq,Nat.reduceAdd,Nat.reduceLeDiff,renI,zbG]|with_reducible first|intro _|refine aJ ?_)
  exact⟨_,zaV (l:=cs) trivial rfl (by omega),rfl⟩
 rw[if_neg h8]
 (refine QE ?_;intros)
 exact⟨_,zaV (l:=[]) trivial rfl (by simp only[Wa];omega),rfl⟩
theorem Qx {p q:Prop}(k:q)(h:Im q p:=by(repeat first|simp(disch:=try exact dis1) only[evD,Nat.reduceBEq,Nat.reduceAdd,Nat.reduceLeDiff,dT,dF,fldP,za,St.cells,zaQ] | ((with_reducible apply Im.i);intro _) | ((with_reducible apply Im.a);omega));exact Im.r):p:=h k
theorem zeg (b:Bl) (h0:b.stmts.length≠0):zk Tryz.prog zaA [.agg b.cells] (·=za (zy b.stmts)):=by
 refine fn_x ziU rfl ?_;unfold zej;have hB:=hBig;obtain⟨ad,l⟩:=b;simp only at h0;simp only[Bl.cells]
 have hlast:l.length - 1 < l.length:=by omega
 have hidx:(((l.length:Nat):Int) - 1).toNat=l.length - 1:=by omega
 have hg:=zo (f:=St.cells) (d:=[]) hlast;rw[zgh hlast];generalize l[l.length - 1]=s at hg;obtain⟨op,var,width,next,els,tgt,e,cs⟩:=s;simp only[St.cells] at hg;unfold zhf;simp only
 (repeat first|simp(disch:=try exact dis1) only[evD,Nat.reduceBEq,Nat.reduceAdd,Nat.reduceLeDiff,fldP,dT,dF,hidx,hg]|with_reducible first|intro _|refine aJ ?_)
 by_cases h6:op=6
 ·
  rw[if_pos h6]
  (refine Qx ?_;intros)
  exact⟨_,zaV (l:=[next]) trivial rfl (by simp only[Wr];omega),rfl⟩
 rw[if_neg h6]
 by_cases h7:op=7
 ·
  rw[if_pos h7]
  (refine Qx ?_;intros)
  exact⟨_,zaV (l:=[next,els]) trivial rfl (by simp only[Wd,Wa];omega),rfl⟩
 rw[if_neg h7]
 by_cases h8:op=8
 ·
  rw[if_pos h8]
  (refine Qx ?_;intros)
  exact⟨_,zao rfl,rfl⟩
 rw[if_neg h8]
 (refine Qx ?_;intros)
 exact⟨_,zaV (l:=[]) trivial rfl (by simp only[Wa];omega),rfl⟩
theorem WpAL.mov {σ:Type} {P:Program} {nt:Nat} {q:Nat→List Nat} {next:σ→Option (List AV × σ)} {ok:σ→Prop} {E:YE P nt q next ok} {K:Kn} {H:AH} {nx:Nat} {s:Option σ} {Q:QTY σ} {d:Option Nat} {x:AOpd} {ys:List AOper} {drop:List Nat}
  (h:WpAL E ys drop Q (setO K d (ev K.get x)) H nx s):WpAL E (⟨d,.mov x,none⟩::ys) drop Q K H nx s:=WpAL.op (by unfold ExK zci zkq aop;simp only[cond_true,true_implies,true_and];exact h)
def blkG (g:G) (b:Nat):Bl:=g.blocks.getD b ⟨0,[]⟩
def zzN (g:G) (b:Nat):Bool:=match (blkG g b).stmts.getLast? with
 | some s=>s.op == 6
 | none=>false
def zeZ (g:G) (cs:List Int) (b j:Nat):Option Nat × Nat :=
 let l:=zy (blkG g b).stmts
 if l.length=0 then (none,j) else if zzN g b then (some (l.getD 0 0).toNat,j) else (some (l.getD (zgs cs j l.length).1.toNat 0).toNat,zkD cs j)
def zos (g:G) (cs:List Int):Nat × Option Nat × Nat→Option (List AV × (Nat × Option Nat × Nat))
 | (k,some b,j)=>some ([.int .i64 b],(k - 1,zeZ g cs b j))
 | (_,none,_)=>none
def okW:Nat × Option Nat × Nat→Prop:=fun s=>s.2.1=none∨0 < s.1
structure OkG (g:G):Prop where
 pos:0 < g.blocks.length
 few:g.blocks.length≤1000000
 ends:∀b∈g.blocks,b.stmts.length≠0
 stmts:∀b∈g.blocks,b.stmts.length≤1000000
 short:∀b∈g.blocks,(zy b.stmts).length≤1000000
 tgt:∀b∈g.blocks,∀t∈zy b.stmts,0≤t∧t < g.blocks.length
theorem zmm {l:List Int} {i:Nat} (h:i < l.length):l.getD i 0∈l:=by
 have e:l.getD i 0=l[i]:=by simp[Wh,h]
 rw[e];exact Wi h
theorem zoq {cs:List Int} {j:Nat} {n:Int} (hn:0 < n):0≤(zgs cs j n).1∧(zgs cs j n).1 < n:=by
 unfold zgs;split
 · exact⟨Int.emod_nonneg _ (by omega),Wx _ hn⟩
 · exact⟨Int.le_refl _,hn⟩
theorem zuu {cs:List Int} {j:Nat} (h:j≤cs.length):zkD cs j≤cs.length:=by
 unfold zkD
 split<;>omega
theorem QF {p q:Prop}(k:q)(h:Im q p:=by(repeat first|simp(disch:=try exact dis1) only[evD,Nat.reduceBEq,Nat.reduceAdd,Nat.reduceLeDiff,dT] | ((with_reducible apply Im.i);intro _) | ((with_reducible apply Im.a);omega));exact Im.r):p:=h k
theorem zoT (g:G) (cs:List Int) (hg:OkG g) (hcs:cs.length≤1000000) (hw:∀c∈cs,0≤c∧c < 4294967296) (n:Nat) (hn:0 < n) :
  ItOk Tryz.prog zbt [.iptr 1 fun j=>[encL 1 cW cs].getD j .undef,.iptr 2 fun j=>g.cells.getD j .undef] [] 0 (zos g cs) okW (n,some 0,0) (fun s _ _=>match s with|some s=>zos g cs s=none|none=>True):=by
 refine zuq zoL rfl rfl fun E hE=>?_
 unfold zi7;obtain⟨ad,l⟩:=g;simp only[G.cells];have hB:=hBig;refine WpA.seq (WpA.pure ?_)
 (refine Qo ?_;intros)
 rw[zaf];refine WpA.seq (WpA.pure ?_)
 (refine Qo ?_;intros)
 rw[zaf];refine WpA.block (WpA.loop (fun x:Nat × Nat × Nat=>([(0,.fn (.yield E.lp) []),(2,.iptr 2 fun j=>[AV.int .u32 ad,encL 2 Bl.cells l].getD j .undef),(4,.ptr 0 0 0 0 0),(5,.int .i64 x.2.1)],[(0,.row 2 [[encL 1 cW cs,.int .i64 x.2.2]] 0)],some (x.1,some x.2.1,x.2.2))) 1 (fun x=>0 < x.1∧x.2.1 < l.length∧x.2.2≤cs.length) (fun x=>x.1) (n,0,0) ⟨hn,hg.pos,Wc _⟩ ?_ rfl ?_)
 · rw[hE];exact(Ent.tab [(0,0,0)] [] rfl Qao Qao)
 ·
  rintro⟨k,b,j⟩ ⟨hk,hb,hj⟩ wf;simp only at hk hb hj;clear wf;unfold zg4;simp only;refine WpA.seq (WpA.seq (WpA.region (WpAL.mov (WpAL.mov (WpAL.yield (s':=(k - 1,zeZ ⟨ad,l⟩ cs b j)) rfl rfl ?_ (fun hok=>WpAL.nil ?_) (WpAL.nil ?_))))))
  ·
   intro x hx
   have e:x=.int .i64 b:=by
    rcases Wt.1 hx with h|h
    · exact h
    · cases h
   rw[e];exact .int _ _
  ·
   rw[zaf];refine WpA.cond (t:=true) rfl (fun _=>WpA.pure ?_) (fun h=>by cases h)
   (refine Qa ?_;intros)
   rw[zaf];refine WpA.pure ?_;have hgb:(l.map Bl.cells).getD b []=[.int .u32 l[b].addr,encL 8 St.cells l[b].stmts]:=zo hb;have hpo:=zeg l[b] (hg.ends _ (Wi hb));simp only[Bl.cells] at hpo
   (repeat first|simp(disch:=try exact dis1) only[evD,Nat.reduceBEq,Nat.reduceAdd,Nat.reduceLeDiff,fldP,dT,za,hgb]|with_reducible first|intro _|refine aJ ?_)
   refine zc (zg hpo rfl) ?_
   (refine Qo ?_;intros)
   have hbk:blkG ⟨ad,l⟩ b=l[b]:=by simp[blkG,hb]
   have hmem:=Wi hb;have hm0:=hg.ends _ hmem;have hsh:=hg.short _ hmem;have hml:=hg.stmts _ hmem;have htg:=hg.tgt _ hmem;simp only at hm0 hsh htg hml
   have hst:zeZ ⟨ad,l⟩ cs b j=if (zy l[b].stmts).length=0 then (none,j) else if zzN ⟨ad,l⟩ b then (some ((zy l[b].stmts).getD 0 0).toNat,j) else (some ((zy l[b].stmts).getD (zgs cs j (zy l[b].stmts).length).1.toNat 0).toNat,zkD cs j):=by simp only[zeZ,hbk]
   have hju:zzN ⟨ad,l⟩ b=(l[b].stmts[l[b].stmts.length - 1].op == 6):=by unfold zzN;rw[hbk,Wz,Wf (by omega)]
   rw[hst] at hok ⊢;rw[hju] at hok ⊢
   have hlast:l[b].stmts.length - 1 < l[b].stmts.length:=by omega
   have hidx:(((l[b].stmts.length:Nat):Int) - 1).toNat=l[b].stmts.length - 1:=by omega
   have hgl:=zo (f:=St.cells) (d:=[]) hlast;generalize zy l[b].stmts=T at hok hsh htg ⊢
   by_cases hT:T.length=0
   ·
    rw[if_pos hT]
    (refine QF ?_;intros)
    rfl
   ·
    rw[if_neg hT] at hok ⊢;generalize l[b].stmts[l[b].stmts.length - 1]=sx at hgl hok ⊢;obtain⟨op,var,width,nx,els,tgt,e,cases⟩:=sx;simp only[St.cells] at hgl;simp only at hok ⊢;have hw1:IntKind.i64.wrap ((l[b].stmts.length:Int) - 1)=(l[b].stmts.length:Int) - 1:=zsd (by omega) (by omega)
    by_cases h6:op=6
    ·
     have hb6:(op == 6)=true:=by simp[h6]
     rw[hb6,if_pos rfl] at hok ⊢
     have hk2:0 < k - 1:=by rcases hok with h|h;cases h;exact h
     have ht:=htg (T.getD 0 0) (zmm (by omega))
     have e0:((List.map (fun n=>[AV.int .i64 n]) T).getD (Int.toNat 0) [])=[.int .i64 (((T.getD 0 0).toNat:Nat):Int)]:=by rw[WD ht.1];simp[Wh,show 0 < T.length by omega]
     (repeat first|simp(disch:=try exact dis1) only[evD,Nat.reduceBEq,Nat.reduceAdd,Nat.reduceLeDiff,fldP,dT,dF,za,hgb,hw1,hidx,hgl]|with_reducible first|intro _|refine aJ ?_)
     rw[zb2];refine⟨(k - 1,(T.getD 0 0).toNat,j),⟨hk2,by simp only;omega,hj⟩,by simp only;omega,?_,rfl⟩;rw[hE,e0];exact(Ent.tab [(0,0,0)] [] rfl Qao Qao)
    ·
     have hb6:(op == 6)=false:=by simp[h6]
     rw[hb6,if_neg (by decide)] at hok ⊢
     have hk2:0 < k - 1:=by rcases hok with h|h;cases h;exact h
     have hpv:=zoq (cs:=cs) (j:=j) (n:=T.length) (by omega);have hpj:=zuu hj
     have hpl:(zgs cs j T.length).1.toNat < T.length:=by omega
     have ht:=htg (T.getD (zgs cs j T.length).1.toNat 0) (zmm hpl)
     have e0:((List.map (fun n=>[AV.int .i64 n]) T).getD (zgs cs j T.length).1.toNat [])=[.int .i64 (((T.getD (zgs cs j T.length).1.toNat 0).toNat:Nat):Int)]:=by rw[WD ht.1];simp[Wh,hpl]
     (repeat first|simp(disch:=try exact dis1) only[evD,Nat.reduceBEq,Nat.reduceAdd,Nat.reduceLeDiff,fldP,dT,dF,za,hgb,hw1,hidx,hgl]|with_reducible first|intro _|refine aJ ?_)
     refine(ze4 cs j T.length (by omega) (by omega) (by omega) hw).mono fun v H' nx' ⟨h1,h2,h3⟩=>?_
     subst h1;subst h2;subst h3
     (repeat first|simp(disch:=try exact dis1) only[evD,Nat.reduceBEq,Nat.reduceAdd,Nat.reduceLeDiff,za,e0]|with_reducible first|intro _|refine aJ ?_)
     rw[zb2];refine⟨(k - 1,(T.getD (zgs cs j T.length).1.toNat 0).toNat,zkD cs j),⟨hk2,by simp only;omega,hpj⟩,by simp only;omega,?_,rfl⟩;rw[hE];exact(Ent.tab [(0,0,0)] [] rfl Qao Qao)
  ·
   rw[zaf];refine WpA.cond (t:=false) rfl (fun h=>by cases h) (fun _=>WpA.pure ?_)
   (refine Qa ?_;intros)
   exact trivial
end Go.Ab
namespace Go.Ab
open Go.RowKit Go.Proofs Go.Maps Go.Sort Go.Shelf
def insI (x:Int):List Int→List Int
 | []=>[x]
 | y::r=>bif decide (x≤y) then x::y::r else y::insI x r
def zgx:List Int→List Int
 | []=>[]
 | x::r=>insI x (zgx r)
theorem znv (x:Int):∀l:List Int,(insI x l).Perm (x::l)
 | []=>.refl _
 |
  y::r=>by
  rw[insI];cases decide (x≤y)
  · exact((znv x r).cons y).trans (.swap x y r)
  · exact .refl _
theorem zch:∀l:List Int,(zgx l).Perm l
 | []=>.refl _
 | x::r=>(znv x _).trans ((zch r).cons x)
theorem zoM (x:Int):∀l:List Int,l.Pairwise (·≤·)→(insI x l).Pairwise (·≤·)
 | [],_=>by simp[insI]
 |
  y::r,h=>by
  rw[insI];rw[Wq] at h
  cases hd:decide (x≤y) with
  |
   true =>
   have hxy:x≤y:=of_decide_eq_true hd;refine Wq.2 ⟨fun z hz=>?_,Wq.2 h⟩
   rcases Wt.1 hz with rfl|hz
   · exact hxy
   · exact Int.le_trans hxy (h.1 z hz)
  |
   false =>
   have hxy:¬x≤y:=of_decide_eq_false hd;refine Wq.2 ⟨fun z hz=>?_,zoM x r h.2⟩
   rcases Wt.1 ((znv x r).mem_iff.1 hz) with rfl|hz
   · omega
   · exact h.1 z hz
theorem zdC:∀l:List Int,(zgx l).Pairwise (·≤·)
 | []=>.nil
 | x::r=>zoM x _ (zdC r)
theorem zxK {l m:List Int} (h:l.Perm m) (hl:l.Pairwise (·≤·)) (hm:m.Pairwise (·≤·)):l=m :=
 List.Perm.eq_of_pairwise (fun _ _ _ _ h1 h2=>Int.le_antisymm h1 h2) hl hm h
theorem znG {l m:List Int} (h:l.Perm m):l.mergeSort (fun x y=>decide (x≤y))=zgx m:=by
 refine zxK ((List.mergeSort_perm _ _).trans (h.trans (zch m).symm)) ?_ (zdC m);have:=List.pairwise_mergeSort (le:=fun x y:Int=>decide (x≤y)) (fun a b c h1 h2=>by simp only[decide_eq_true_eq] at *;exact Int.le_trans h1 h2) (fun a b=>by simp only[Bool.or_eq_true,decide_eq_true_eq];exact Int.le_total a b) l
 exact this.imp fun h=>of_decide_eq_true h
def entI:List (List AV)→Option (List (Int × Int))
 | []=>some []
 |
  c::r=>match c with
  |
   [.int .i64 k,_,.int .i64 b]=>match entI r with
   | some l=>some ((k,b)::l)
   | none=>none
  | _=>none
end Go.Ab
namespace Go.Ab
open Go.RowKit Go.Proofs Go.Sort Go.Shelf
theorem zxa {α:Type} [Inhabited α] {w:World} {b blk off:Nat} {enc:α→Value} {d:Array α} (h:FzOk w b):FzOk (putRow enc w blk off d) b:=by
 intro c e lo hi hh;unfold putRow mapBlock at hh;simp only[WE] at hh
 by_cases hb:blk=b
 ·
  subst hb;rw[if_pos rfl] at hh
  cases ho:w.heap[blk]? with
  | none=>rw[ho] at hh;cases hh
  |
   some o =>
   rw[ho] at hh
   cases o with
   |
    cells c0 e0 f0 =>
    obtain⟨lo0,hi0⟩:=f0;simp only[Option.map_some,onCells,Wy,Obj.cells.injEq,Prod.mk.injEq] at hh;obtain⟨rfl,rfl,rfl,rfl⟩:=hh
    rcases h c0 e0 _ _ ho with h1|h1
    · exact .inl h1
    · exact .inr (by unfold putCells;simpa using h1)
   | _=>simp[onCells] at hh
 · rw[if_neg hb] at hh;exact h c e lo hi hh
section
variable {w:World} {L:Nat→Prop} {ι:Inj} {H:AH} {nx:Nat}
theorem zsL {r q g:Nat} {zs:List Int} (hr:H.get r q=some (.row 1 (zs.map fun n=>[.int .i64 n]) g)) (hlen:zs.length≤1000000) :
  z7 Tryz.prog zcA [.own r q g 0 zs.length] H nx (fun v H' nx'=>(v,H',nx')=(.tup [],H.set r q (.row 1 ((zgx zs).map fun n=>[.int .i64 n]) g),nx)):=by
 intro w L ι vs rel hv
 obtain⟨mv,hvs,hmv⟩:∃mv,vs=#[mv]∧VR w (Lt L ι H) ι mv (.own r q g 0 zs.length):=by
  rcases vs with ⟨l⟩
  cases hv with
  | cons h1 h2=>cases h2;exact⟨_,rfl,h1⟩
 subst hvs;have hsl:(zgx zs).length=zs.length:=(zch zs).length_eq
 cases hmv with
 |
  own _ _ _ _ _ _ a c l hl hmx hn hc ha =>
  obtain⟨l',hl',ok⟩:=rel.row _ _ _ _ _ hr;rw[hl] at hl';cases hl'
  have hsame:∀l0,ι r q g=some l0→l0=l:=fun l0 h0=>by rw[hl] at h0;cases h0;rfl
  have hsz:l.sz=1:=ok.hsz;have nil:∀ {M:Nat→Prop} {ι':Inj} {w':World},VR w' M ι' (.tuple #[]) (.tup []):=.tup _ _ _ rfl (fun i v a h=>by simp at h)
  rcases Nat.eq_zero_or_pos zs.length with h0|hpos
  ·
   obtain rfl:zs=[]:=Wn h0
   refine(AnyM.slices_Sort_int_none zxw a c w).mono fun e w' ⟨he,hw⟩=>?_
   subst hw;have c1:Chg w' ι H r q g l w':=⟨rfl,rfl,rfl,Wg _,fun _ _ _=>rfl,fun hpos=>.inl ⟨1,_,g,l,hr,hl,hpos,rfl⟩,hsame,fun g2 l2 h2=>rel.gen r q _ _ _ hr g2 l2 h2⟩;refine⟨_,_,_,_,_,he,c1.step (.inl ⟨_,_,hr⟩) rel (rel.idx _ _ _ _ hl) (Wg _) (.mk' ok.hsz (ok.plain hmx).len hmx (ok.plain hmx).there (ok.plain hmx).fz (fun i c h=>by simp[zgx] at h) (fun i c' j a h1 h2=>by simp[zgx] at h1)),Wg _,nil,rfl⟩
  ·
   obtain rfl:=ha (by omega)
   have hoff:l.off+0 * l.sz=l.off:=by omega
   rw[hoff]
   have hcap:0 < l.cap * l.sz:=by rw[hsz];omega
   have hblk:=ok.blk_lt hcap
   have hget:∀ {ys:List Int} {j:Nat},j < ys.length→(ys.toArray)[j]! = ys.getD j 0:=fun {ys j} h=>by simp[h,Wh]
   have hin:∀j,j < zs.length→w.cell? ⟨l.block,l.off+j,none⟩=some (.int .i64 (zs.getD j 0))∧InR .i64 (zs.getD j 0):=by
    intro j hj
    have e:zs.getD j 0=zs[j]:=by simp[Wh,hj]
    obtain⟨v,h1,_,h2⟩:=ok.holds hmx j [.int .i64 zs[j]] 0 (.int .i64 zs[j]) (by rw[Wu,Wf hj];rfl) rfl
    cases h2 with
    |
     int _ _ _ h3 =>
     rw[e];simp only[Nat.mul_one,Nat.add_zero] at h1;exact⟨h1,h3⟩
   have hH:Holds (Value.int .i64) w l.block l.off zs.toArray:=fun j hj=>by
    have hj':j < zs.length:=by simpa using hj
    rw[hget hj'];exact⟨(hin j hj').1,((ok.plain hmx).there j (by have:=(ok.plain hmx).len;simp only[List.length_map] at this;omega)).2⟩
   refine(AnyM.slices_Sort_int zxw l.block l.off c zs w hH hblk (by omega)).mono fun e w' ⟨he,n,os,hw⟩=>?_
   rw[znG (List.Perm.refl zs)] at hw
   have hcell:∀j,j < zs.length→w'.cell? ⟨l.block,l.off+j,none⟩=some (.int .i64 ((zgx zs).getD j 0)):=fun j hj=>by rw[hw,cell?_grow _ _ _ (by simpa using hblk),putRow_ahead,cell?_ahead,cell?_putRow _ _ _ _ zs.toArray _ hH (by simpa using hsl) j (by simpa [hsl] using hj),hget (by omega)]
   have hcell2:∀a:Addr,a.block < w.heap.size→(a.block≠l.block∨a.off < l.off∨l.off+zs.length≤a.off)→w'.cell? a=w.cell? a:=fun a ha hx=>by rw[hw,cell?_grow _ _ _ (by simpa using ha),putRow_ahead,cell?_ahead,cell?_putRow_other _ _ _ _ _ _ (by simpa [hsl] using hx)]
   have hfrz:∀a:Addr,a.block < w.heap.size→w'.frozen? a=w.frozen? a:=fun a ha=>by rw[hw,frozen?_grow _ _ _ (by simpa using ha),putRow_ahead,frozen?_ahead,frozen?_putRow]
   have hheap:∀b,b < w.heap.size→b≠l.block→w'.heap[b]? = w.heap[b]? := fun b hb hne=>by rw[hw,heap_grow_old _ _ (by simpa using hb)];simp only[putRow,mapBlock,heap_ahead,WE];rw[if_neg (Ne.symm hne)]
   have c1:Chg w ι H r q g l w':=⟨by rw[hw];rfl,by rw[hw];rfl,by rw[hw];rfl,by rw[hw];simp,fun b hb hn=>hheap b hb (fun hbe=>hn ⟨1,_,g,l,hr,hl,hcap,hbe.symm⟩),fun hpos=>.inl ⟨1,_,g,l,hr,hl,hpos,rfl⟩,hsame,fun g2 l2 h2=>rel.gen r q _ _ _ hr g2 l2 h2⟩
   have hfz:FzOk w' l.block:=by have h1:FzOk (putRow (Value.int .i64) (Sort.ahead w n) l.block l.off (zgx zs).toArray) l.block:=zxa (((ok.plain hmx).fz (by rw[←hsz];exact hcap)).of_heap rfl);rw[hw];exact h1.of_heap (heap_grow_old _ _ (by simpa using hblk))
   refine⟨_,_,_,_,_,he,c1.step (.inl ⟨_,_,hr⟩) rel (rel.idx _ _ _ _ hl) (Wg _) (.mk' ok.hsz (by have:=(ok.plain hmx).len;simp only[List.length_map] at this ⊢;omega) hmx (fun k hk=>?_) (fun _=>hfz) (fun i c h=>?_) (fun i c' j a h1 h2=>?_)),Wg _,nil,rfl⟩
   ·
    rw[hfrz _ hblk];refine⟨?_,((ok.plain hmx).there k hk).2⟩
    by_cases hk2:k < zs.length
    · rw[hcell k hk2];rfl
    · rw[hcell2 _ hblk (.inr (.inr (by simp only;omega)))];exact((ok.plain hmx).there k hk).1
   · rw[Wu] at h;obtain⟨z,_,rfl⟩:=WF.1 h;rfl
   ·
    rw[Wu] at h1;obtain⟨z,hz,rfl⟩:=WF.1 h1
    match j with
    |
     0 =>
     cases h2
     have hi:i < zs.length:=by rw[←hsl];exact(List.getElem?_eq_some_iff.1 hz).1
     refine⟨.int .i64 z,?_,rfl,.int _ _ _ ?_⟩
     · simp only[Nat.mul_one,Nat.add_zero];rw[hcell i hi,We,hz];rfl
     · obtain⟨k,hk,hke⟩:=Wm.1 ((zch zs).mem_iff.1 (List.mem_of_getElem? hz));have:=(hin k hk).2;simp only[Wh,Wf hk,Option.getD_some] at this;rw[hke] at this;exact this
    | j+1=>cases h2
end
end Go.Ab
