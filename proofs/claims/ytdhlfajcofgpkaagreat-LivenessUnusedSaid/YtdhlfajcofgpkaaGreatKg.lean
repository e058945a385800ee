/-
  Part 7 of the proof: how the calls of this program run, over values instead of memory, and what each function computes.
-/
import Derived.Test.YtdhlfajcofgpkaaGreatKf
set_option maxRecDepth 100000
set_option linter.unusedVariables false
set_option linter.unusedSimpArgs false
set_option linter.unnecessarySimpa false
set_option linter.unusedSectionVars false
open List renaming getD_eq_getElem?_getD→Wa,getElem?_eq_getElem→Wc,drop_of_length_le→Wd
open And renaming intro→Wb
open Array renaming getElem?_eq_none→We,getElem?_toList→Wf
namespace Go.Ab
open Go.RowKit Go.Proofs
def zR (op:Int):Int:=if op=2 then 2 else if op=1∨op=4∨op=7∨op=8 then 1 else if op=3∨op=5∨op=6∨op=9∨op=10 then 0 else -1
def zH (op var width next els tgt:Int) (k:Nat):Bool:=decide (((op=1∨op=3)∨var=0)∧(op=2∨width=0)∧((op=6∨op=7)∨next=0)∧(op=7∨els=0)∧(op=5∨tgt=0)∧(op=8∨k=0))
def zA (op var width next els tgt:Int) (k:Nat):Bool:=decide ((((op=1∨op=3)∨var=0)∧(op=2∨width=0)∧((op=6∨op=7)∨next=0)∧(op=7∨els=0)∧(op=5∨tgt=0)∧(op=8∨k=0))∧(0≤var∧var < 65536)∧(op=2→width=1∨width=2∨width=4)∧(op=8→1≤k∧k≤64))
theorem Qn {p q:Prop}(k:q)(h:Im q p:=by(repeat first|simp(disch:=try exact dis1) only[evD,Nat.reduceBEq,Nat.reduceAdd,Nat.reduceLeDiff,dT,dF,zV] | ((with_reducible apply Im.i);intro _) | ((with_reducible apply Im.a);omega));exact Im.r):p:=h k
theorem znI (op:Int):zu Tryz.prog zfh [.int .i64 op] (·=.int .i64 (zR op)):=by
 refine fn_x znv rfl ?_;unfold zh6
 by_cases h1:op=1
 ·
  have hr:zR op=1:=by unfold zR;subst h1;rfl
  rw[hr]
  (refine Qn ?_;intros)
  exact⟨_,.int _ _ _,rfl⟩
 by_cases h4:op=4
 ·
  have hr:zR op=1:=by unfold zR;subst h4;rfl
  rw[hr]
  (refine Qn ?_;intros)
  exact⟨_,.int _ _ _,rfl⟩
 by_cases h7:op=7
 ·
  have hr:zR op=1:=by unfold zR;subst h7;rfl
  rw[hr]
  (refine Qn ?_;intros)
  exact⟨_,.int _ _ _,rfl⟩
 by_cases h8:op=8
 ·
  have hr:zR op=1:=by unfold zR;subst h8;rfl
  rw[hr]
  (refine Qn ?_;intros)
  exact⟨_,.int _ _ _,rfl⟩
 by_cases h2:op=2
 ·
  have hr:zR op=2:=by unfold zR;subst h2;rfl
  rw[hr]
  (refine Qn ?_;intros)
  exact⟨_,.int _ _ _,rfl⟩
 by_cases h3:op=3
 ·
  have hr:zR op=0:=by unfold zR;subst h3;rfl
  rw[hr]
  (refine Qn ?_;intros)
  exact⟨_,.int _ _ _,rfl⟩
 by_cases h5:op=5
 ·
  have hr:zR op=0:=by unfold zR;subst h5;rfl
  rw[hr]
  (refine Qn ?_;intros)
  exact⟨_,.int _ _ _,rfl⟩
 by_cases h6:op=6
 ·
  have hr:zR op=0:=by unfold zR;subst h6;rfl
  rw[hr]
  (refine Qn ?_;intros)
  exact⟨_,.int _ _ _,rfl⟩
 by_cases h9:op=9
 ·
  have hr:zR op=0:=by unfold zR;subst h9;rfl
  rw[hr]
  (refine Qn ?_;intros)
  exact⟨_,.int _ _ _,rfl⟩
 by_cases h10:op=10
 ·
  have hr:zR op=0:=by unfold zR;subst h10;rfl
  rw[hr]
  (refine Qn ?_;intros)
  exact⟨_,.int _ _ _,rfl⟩
 have hr:zR op = -1:=by unfold zR;rw[if_neg (by omega),if_neg (by omega),if_neg (by omega)]
 rw[hr]
 (refine Qn ?_;intros)
 exact⟨_,.int _ _ _,rfl⟩
theorem Qs {p q:Prop}(k:q)(h:Im q p:=by(repeat first|simp(disch:=try exact dis1) only[evD,Nat.reduceBEq,Nat.reduceAdd,Nat.reduceLeDiff,dT,dF,zcu] | ((with_reducible apply Im.i);intro _) | ((with_reducible apply Im.a);omega));exact Im.r):p:=h k
theorem zuN (op:Int) (h1:1≤op) (h2:op≤10):zu Tryz.prog zl0 [.int .i64 op] (·=.int .i64 (zR op)):=by
 refine fn_x ztO rfl ?_;unfold zok
 by_cases h2:op=2
 ·
  have hr:zR op=2:=by unfold zR;subst h2;rfl
  rw[hr]
  (refine Qs ?_;intros)
  exact⟨_,.int _ _ _,rfl⟩
 by_cases h1:op=1
 ·
  have hr:zR op=1:=by unfold zR;subst h1;rfl
  rw[hr]
  (refine Qs ?_;intros)
  exact⟨_,.int _ _ _,rfl⟩
 by_cases h4:op=4
 ·
  have hr:zR op=1:=by unfold zR;subst h4;rfl
  rw[hr]
  (refine Qs ?_;intros)
  exact⟨_,.int _ _ _,rfl⟩
 by_cases h7:op=7
 ·
  have hr:zR op=1:=by unfold zR;subst h7;rfl
  rw[hr]
  (refine Qs ?_;intros)
  exact⟨_,.int _ _ _,rfl⟩
 by_cases h8:op=8
 ·
  have hr:zR op=1:=by unfold zR;subst h8;rfl
  rw[hr]
  (refine Qs ?_;intros)
  exact⟨_,.int _ _ _,rfl⟩
 have hr:zR op=0:=by unfold zR;rw[if_neg (by omega),if_neg (by omega),if_pos (by omega)]
 rw[hr]
 (refine Qs ?_;intros)
 exact⟨_,.int _ _ _,rfl⟩
theorem Qd {p q:Prop}(k:q)(h:Im q p:=by(repeat first|simp(disch:=try exact dis1) only[evD,Nat.reduceBEq,Nat.reduceAdd,Nat.reduceLeDiff,dT,dF,fldP,za,zi] | ((with_reducible apply Im.i);intro _) | ((with_reducible apply Im.a);omega));exact Im.r):p:=h k
theorem zuL (op var width next els tgt:Int) (e:List Ex) (cs:List Int) (h:op=1):zu Tryz.prog zaH [.agg [.int .i64 op,.int .i64 var,.int .i64 width,.int .i64 next,.int .i64 els,.int .u32 tgt,encL 5 encX e,za cs]] (·=.bool (zH op var width next els tgt cs.length)):=by
 refine fn_x za4 rfl ?_;unfold zaO;have hB:=hBig
 (refine Qd ?_;intros)
 by_cases q0:width=0<;>(refine Qd ?_;intros)
 case neg =>exact⟨_,.bool _ _,congrArg AV.bool (by unfold zH;exact lb)⟩
 by_cases q1:next=0<;>(refine Qd ?_;intros)
 case neg =>exact⟨_,.bool _ _,congrArg AV.bool (by unfold zH;exact lb)⟩
 by_cases q2:els=0<;>(refine Qd ?_;intros)
 case neg =>exact⟨_,.bool _ _,congrArg AV.bool (by unfold zH;exact lb)⟩
 by_cases q3:tgt=0<;>(refine Qd ?_;intros)
 case neg =>exact⟨_,.bool _ _,congrArg AV.bool (by unfold zH;exact lb)⟩
 exact⟨_,.bool _ _,congrArg AV.bool (by unfold zH;exact lb)⟩
theorem zuy (op var width next els tgt:Int) (e:List Ex) (cs:List Int) (h:op=2):zu Tryz.prog zaH [.agg [.int .i64 op,.int .i64 var,.int .i64 width,.int .i64 next,.int .i64 els,.int .u32 tgt,encL 5 encX e,za cs]] (·=.bool (zH op var width next els tgt cs.length)):=by
 refine fn_x za4 rfl ?_;unfold zaO;have hB:=hBig
 (refine Qd ?_;intros)
 by_cases q0:var=0<;>(refine Qd ?_;intros)
 case neg =>exact⟨_,.bool _ _,congrArg AV.bool (by unfold zH;exact lb)⟩
 by_cases q1:next=0<;>(refine Qd ?_;intros)
 case neg =>exact⟨_,.bool _ _,congrArg AV.bool (by unfold zH;exact lb)⟩
 by_cases q2:els=0<;>(refine Qd ?_;intros)
 case neg =>exact⟨_,.bool _ _,congrArg AV.bool (by unfold zH;exact lb)⟩
 by_cases q3:tgt=0<;>(refine Qd ?_;intros)
 case neg =>exact⟨_,.bool _ _,congrArg AV.bool (by unfold zH;exact lb)⟩
 exact⟨_,.bool _ _,congrArg AV.bool (by unfold zH;exact lb)⟩
theorem zuS (op var width next els tgt:Int) (e:List Ex) (cs:List Int) (h:op=3):zu Tryz.prog zaH [.agg [.int .i64 op,.int .i64 var,.int .i64 width,.int .i64 next,.int .i64 els,.int .u32 tgt,encL 5 encX e,za cs]] (·=.bool (zH op var width next els tgt cs.length)):=by
 refine fn_x za4 rfl ?_;unfold zaO;have hB:=hBig
 (refine Qd ?_;intros)
 by_cases q0:width=0<;>(refine Qd ?_;intros)
 case neg =>exact⟨_,.bool _ _,congrArg AV.bool (by unfold zH;exact lb)⟩
 by_cases q1:next=0<;>(refine Qd ?_;intros)
 case neg =>exact⟨_,.bool _ _,congrArg AV.bool (by unfold zH;exact lb)⟩
 by_cases q2:els=0<;>(refine Qd ?_;intros)
 case neg =>exact⟨_,.bool _ _,congrArg AV.bool (by unfold zH;exact lb)⟩
 by_cases q3:tgt=0<;>(refine Qd ?_;intros)
 case neg =>exact⟨_,.bool _ _,congrArg AV.bool (by unfold zH;exact lb)⟩
 exact⟨_,.bool _ _,congrArg AV.bool (by unfold zH;exact lb)⟩
theorem zue (op var width next els tgt:Int) (e:List Ex) (cs:List Int) (h:op=4):zu Tryz.prog zaH [.agg [.int .i64 op,.int .i64 var,.int .i64 width,.int .i64 next,.int .i64 els,.int .u32 tgt,encL 5 encX e,za cs]] (·=.bool (zH op var width next els tgt cs.length)):=by
 refine fn_x za4 rfl ?_;unfold zaO;have hB:=hBig
 (refine Qd ?_;intros)
 by_cases q0:var=0<;>(refine Qd ?_;intros)
 case neg =>exact⟨_,.bool _ _,congrArg AV.bool (by unfold zH;exact lb)⟩
 by_cases q1:width=0<;>(refine Qd ?_;intros)
 case neg =>exact⟨_,.bool _ _,congrArg AV.bool (by unfold zH;exact lb)⟩
 by_cases q2:next=0<;>(refine Qd ?_;intros)
 case neg =>exact⟨_,.bool _ _,congrArg AV.bool (by unfold zH;exact lb)⟩
 by_cases q3:els=0<;>(refine Qd ?_;intros)
 case neg =>exact⟨_,.bool _ _,congrArg AV.bool (by unfold zH;exact lb)⟩
 by_cases q4:tgt=0<;>(refine Qd ?_;intros)
 case neg =>exact⟨_,.bool _ _,congrArg AV.bool (by unfold zH;exact lb)⟩
 exact⟨_,.bool _ _,congrArg AV.bool (by unfold zH;exact lb)⟩
theorem ztF (op var width next els tgt:Int) (e:List Ex) (cs:List Int) (h:op=5):zu Tryz.prog zaH [.agg [.int .i64 op,.int .i64 var,.int .i64 width,.int .i64 next,.int .i64 els,.int .u32 tgt,encL 5 encX e,za cs]] (·=.bool (zH op var width next els tgt cs.length)):=by
 refine fn_x za4 rfl ?_;unfold zaO;have hB:=hBig
 (refine Qd ?_;intros)
 by_cases q0:var=0<;>(refine Qd ?_;intros)
 case neg =>exact⟨_,.bool _ _,congrArg AV.bool (by unfold zH;exact lb)⟩
 by_cases q1:width=0<;>(refine Qd ?_;intros)
 case neg =>exact⟨_,.bool _ _,congrArg AV.bool (by unfold zH;exact lb)⟩
 by_cases q2:next=0<;>(refine Qd ?_;intros)
 case neg =>exact⟨_,.bool _ _,congrArg AV.bool (by unfold zH;exact lb)⟩
 by_cases q3:els=0<;>(refine Qd ?_;intros)
 case neg =>exact⟨_,.bool _ _,congrArg AV.bool (by unfold zH;exact lb)⟩
 exact⟨_,.bool _ _,congrArg AV.bool (by unfold zH;exact lb)⟩
theorem ztP (op var width next els tgt:Int) (e:List Ex) (cs:List Int) (h:op=6):zu Tryz.prog zaH [.agg [.int .i64 op,.int .i64 var,.int .i64 width,.int .i64 next,.int .i64 els,.int .u32 tgt,encL 5 encX e,za cs]] (·=.bool (zH op var width next els tgt cs.length)):=by
 refine fn_x za4 rfl ?_;unfold zaO;have hB:=hBig
 (refine Qd ?_;intros)
 by_cases q0:var=0<;>(refine Qd ?_;intros)
 case neg =>exact⟨_,.bool _ _,congrArg AV.bool (by unfold zH;exact lb)⟩
 by_cases q1:width=0<;>(refine Qd ?_;intros)
 case neg =>exact⟨_,.bool _ _,congrArg AV.bool (by unfold zH;exact lb)⟩
 by_cases q2:els=0<;>(refine Qd ?_;intros)
 case neg =>exact⟨_,.bool _ _,congrArg AV.bool (by unfold zH;exact lb)⟩
 by_cases q3:tgt=0<;>(refine Qd ?_;intros)
 case neg =>exact⟨_,.bool _ _,congrArg AV.bool (by unfold zH;exact lb)⟩
 exact⟨_,.bool _ _,congrArg AV.bool (by unfold zH;exact lb)⟩
theorem ztV (op var width next els tgt:Int) (e:List Ex) (cs:List Int) (h:op=7):zu Tryz.prog zaH [.agg [.int .i64 op,.int .i64 var,.int .i64 width,.int .i64 next,.int .i64 els,.int .u32 tgt,encL 5 encX e,za cs]] (·=.bool (zH op var width next els tgt cs.length)):=by
 refine fn_x za4 rfl ?_;unfold zaO;have hB:=hBig
 (refine Qd ?_;intros)
 by_cases q0:var=0<;>(refine Qd ?_;intros)
 case neg =>exact⟨_,.bool _ _,congrArg AV.bool (by unfold zH;exact lb)⟩
 by_cases q1:width=0<;>(refine Qd ?_;intros)
 case neg =>exact⟨_,.bool _ _,congrArg AV.bool (by unfold zH;exact lb)⟩
 by_cases q2:tgt=0<;>(refine Qd ?_;intros)
 case neg =>exact⟨_,.bool _ _,congrArg AV.bool (by unfold zH;exact lb)⟩
 exact⟨_,.bool _ _,congrArg AV.bool (by unfold zH;exact lb)⟩
theorem zt5 (op var width next els tgt:Int) (e:List Ex) (cs:List Int) (h:op=8):zu Tryz.prog zaH [.agg [.int .i64 op,.int .i64 var,.int .i64 width,.int .i64 next,.int .i64 els,.int .u32 tgt,encL 5 encX e,za cs]] (·=.bool (zH op var width next els tgt cs.length)):=by
 refine fn_x za4 rfl ?_;unfold zaO;have hB:=hBig
 (refine Qd ?_;intros)
 by_cases q0:var=0<;>(refine Qd ?_;intros)
 case neg =>exact⟨_,.bool _ _,congrArg AV.bool (by unfold zH;exact lb)⟩
 by_cases q1:width=0<;>(refine Qd ?_;intros)
 case neg =>exact⟨_,.bool _ _,congrArg AV.bool (by unfold zH;exact lb)⟩
 by_cases q2:next=0<;>(refine Qd ?_;intros)
 case neg =>exact⟨_,.bool _ _,congrArg AV.bool (by unfold zH;exact lb)⟩
 by_cases q3:els=0<;>(refine Qd ?_;intros)
 case neg =>exact⟨_,.bool _ _,congrArg AV.bool (by unfold zH;exact lb)⟩
 by_cases q4:tgt=0<;>(refine Qd ?_;intros)
 case neg =>exact⟨_,.bool _ _,congrArg AV.bool (by unfold zH;exact lb)⟩
 exact⟨_,.bool _ _,congrArg AV.bool (by unfold zH;exact lb)⟩
theorem zvs (op var width next els tgt:Int) (e:List Ex) (cs:List Int) (h:op=9):zu Tryz.prog zaH [.agg [.int .i64 op,.int .i64 var,.int .i64 width,.int .i64 next,.int .i64 els,.int .u32 tgt,encL 5 encX e,za cs]] (·=.bool (zH op var width next els tgt cs.length)):=by
 refine fn_x za4 rfl ?_;unfold zaO;have hB:=hBig
 (refine Qd ?_;intros)
 by_cases q0:var=0<;>(refine Qd ?_;intros)
 case neg =>exact⟨_,.bool _ _,congrArg AV.bool (by unfold zH;exact lb)⟩
 by_cases q1:width=0<;>(refine Qd ?_;intros)
 case neg =>exact⟨_,.bool _ _,congrArg AV.bool (by unfold zH;exact lb)⟩
 by_cases q2:next=0<;>(refine Qd ?_;intros)
 case neg =>exact⟨_,.bool _ _,congrArg AV.bool (by unfold zH;exact lb)⟩
 by_cases q3:els=0<;>(refine Qd ?_;intros)
 case neg =>exact⟨_,.bool _ _,congrArg AV.bool (by unfold zH;exact lb)⟩
 by_cases q4:tgt=0<;>(refine Qd ?_;intros)
 case neg =>exact⟨_,.bool _ _,congrArg AV.bool (by unfold zH;exact lb)⟩
 exact⟨_,.bool _ _,congrArg AV.bool (by unfold zH;exact lb)⟩
theorem ztm (op var width next els tgt:Int) (e:List Ex) (cs:List Int) (h:op=10):zu Tryz.prog zaH [.agg [.int .i64 op,.int .i64 var,.int .i64 width,.int .i64 next,.int .i64 els,.int .u32 tgt,encL 5 encX e,za cs]] (·=.bool (zH op var width next els tgt cs.length)):=by
 refine fn_x za4 rfl ?_;unfold zaO;have hB:=hBig
 (refine Qd ?_;intros)
 by_cases q0:var=0<;>(refine Qd ?_;intros)
 case neg =>exact⟨_,.bool _ _,congrArg AV.bool (by unfold zH;exact lb)⟩
 by_cases q1:width=0<;>(refine Qd ?_;intros)
 case neg =>exact⟨_,.bool _ _,congrArg AV.bool (by unfold zH;exact lb)⟩
 by_cases q2:next=0<;>(refine Qd ?_;intros)
 case neg =>exact⟨_,.bool _ _,congrArg AV.bool (by unfold zH;exact lb)⟩
 by_cases q3:els=0<;>(refine Qd ?_;intros)
 case neg =>exact⟨_,.bool _ _,congrArg AV.bool (by unfold zH;exact lb)⟩
 by_cases q4:tgt=0<;>(refine Qd ?_;intros)
 case neg =>exact⟨_,.bool _ _,congrArg AV.bool (by unfold zH;exact lb)⟩
 exact⟨_,.bool _ _,congrArg AV.bool (by unfold zH;exact lb)⟩
theorem zsH (op var width next els tgt:Int) (e:List Ex) (cs:List Int) (h1:1≤op) (h2:op≤10):zu Tryz.prog zaH [.agg [.int .i64 op,.int .i64 var,.int .i64 width,.int .i64 next,.int .i64 els,.int .u32 tgt,encL 5 encX e,za cs]] (·=.bool (zH op var width next els tgt cs.length)):=by
 by_cases h10:op=1
 · exact zuL op var width next els tgt e cs h10
 by_cases h20:op=2
 · exact zuy op var width next els tgt e cs h20
 by_cases h30:op=3
 · exact zuS op var width next els tgt e cs h30
 by_cases h40:op=4
 · exact zue op var width next els tgt e cs h40
 by_cases h50:op=5
 · exact ztF op var width next els tgt e cs h50
 by_cases h60:op=6
 · exact ztP op var width next els tgt e cs h60
 by_cases h70:op=7
 · exact ztV op var width next els tgt e cs h70
 by_cases h80:op=8
 · exact zt5 op var width next els tgt e cs h80
 by_cases h90:op=9
 · exact zvs op var width next els tgt e cs h90
 by_cases h100:op=10
 · exact ztm op var width next els tgt e cs h100
 omega
theorem Qb {p q:Prop}(k:q)(h:Im q p:=by(repeat first|simp(disch:=try exact dis1) only[evD,Nat.reduceBEq,Nat.reduceAdd,Nat.reduceLeDiff,dT,dF,fldP,za,zg] | ((with_reducible apply Im.i);intro _) | ((with_reducible apply Im.a);omega));exact Im.r):p:=h k
theorem zwK (op var width next els tgt:Int) (e:List Ex) (cs:List Int) (h:op=1):zu Tryz.prog zaV [.agg [.int .i64 op,.int .i64 var,.int .i64 width,.int .i64 next,.int .i64 els,.int .u32 tgt,encL 5 encX e,za cs]] (·=.bool (zA op var width next els tgt cs.length)):=by
 refine fn_x zbo rfl ?_;unfold za9;have hB:=hBig
 (refine Qb ?_;intros)
 refine ze (zd (zhl var) rfl) ?_;unfold zs3
 by_cases hv:0≤var∧var < 65536<;>(refine Qb ?_;intros)
 case neg =>exact⟨_,.bool _ _,congrArg AV.bool (by unfold zA;exact lb)⟩
 by_cases q0:width=0<;>(refine Qb ?_;intros)
 case neg =>exact⟨_,.bool _ _,congrArg AV.bool (by unfold zA;exact lb)⟩
 by_cases q1:tgt=0<;>(refine Qb ?_;intros)
 case neg =>exact⟨_,.bool _ _,congrArg AV.bool (by unfold zA;exact lb)⟩
 by_cases q2:next=0<;>(refine Qb ?_;intros)
 case neg =>exact⟨_,.bool _ _,congrArg AV.bool (by unfold zA;exact lb)⟩
 by_cases q3:els=0<;>(refine Qb ?_;intros)
 case neg =>exact⟨_,.bool _ _,congrArg AV.bool (by unfold zA;exact lb)⟩
 exact⟨_,.bool _ _,congrArg AV.bool (by unfold zA;exact lb)⟩
theorem zwk (op var width next els tgt:Int) (e:List Ex) (cs:List Int) (h:op=2):zu Tryz.prog zaV [.agg [.int .i64 op,.int .i64 var,.int .i64 width,.int .i64 next,.int .i64 els,.int .u32 tgt,encL 5 encX e,za cs]] (·=.bool (zA op var width next els tgt cs.length)):=by
 refine fn_x zbo rfl ?_;unfold za9;have hB:=hBig
 (refine Qb ?_;intros)
 refine ze (zd (zoc width) rfl) ?_;unfold ztb
 by_cases hv:width=1∨width=2∨width=4<;>(refine Qb ?_;intros)
 case neg =>exact⟨_,.bool _ _,congrArg AV.bool (by unfold zA;exact lb)⟩
 by_cases q0:var=0<;>(refine Qb ?_;intros)
 case neg =>exact⟨_,.bool _ _,congrArg AV.bool (by unfold zA;exact lb)⟩
 by_cases q1:tgt=0<;>(refine Qb ?_;intros)
 case neg =>exact⟨_,.bool _ _,congrArg AV.bool (by unfold zA;exact lb)⟩
 by_cases q2:next=0<;>(refine Qb ?_;intros)
 case neg =>exact⟨_,.bool _ _,congrArg AV.bool (by unfold zA;exact lb)⟩
 by_cases q3:els=0<;>(refine Qb ?_;intros)
 case neg =>exact⟨_,.bool _ _,congrArg AV.bool (by unfold zA;exact lb)⟩
 exact⟨_,.bool _ _,congrArg AV.bool (by unfold zA;exact lb)⟩
theorem zxr (op var width next els tgt:Int) (e:List Ex) (cs:List Int) (h:op=3):zu Tryz.prog zaV [.agg [.int .i64 op,.int .i64 var,.int .i64 width,.int .i64 next,.int .i64 els,.int .u32 tgt,encL 5 encX e,za cs]] (·=.bool (zA op var width next els tgt cs.length)):=by
 refine fn_x zbo rfl ?_;unfold za9;have hB:=hBig
 (refine Qb ?_;intros)
 refine ze (zd (zhl var) rfl) ?_;unfold zs3
 by_cases hv:0≤var∧var < 65536<;>(refine Qb ?_;intros)
 case neg =>exact⟨_,.bool _ _,congrArg AV.bool (by unfold zA;exact lb)⟩
 by_cases q0:width=0<;>(refine Qb ?_;intros)
 case neg =>exact⟨_,.bool _ _,congrArg AV.bool (by unfold zA;exact lb)⟩
 by_cases q1:tgt=0<;>(refine Qb ?_;intros)
 case neg =>exact⟨_,.bool _ _,congrArg AV.bool (by unfold zA;exact lb)⟩
 by_cases q2:next=0<;>(refine Qb ?_;intros)
 case neg =>exact⟨_,.bool _ _,congrArg AV.bool (by unfold zA;exact lb)⟩
 by_cases q3:els=0<;>(refine Qb ?_;intros)
 case neg =>exact⟨_,.bool _ _,congrArg AV.bool (by unfold zA;exact lb)⟩
 exact⟨_,.bool _ _,congrArg AV.bool (by unfold zA;exact lb)⟩
theorem zxp (op var width next els tgt:Int) (e:List Ex) (cs:List Int) (h:op=4):zu Tryz.prog zaV [.agg [.int .i64 op,.int .i64 var,.int .i64 width,.int .i64 next,.int .i64 els,.int .u32 tgt,encL 5 encX e,za cs]] (·=.bool (zA op var width next els tgt cs.length)):=by
 refine fn_x zbo rfl ?_;unfold za9;have hB:=hBig
 (refine Qb ?_;intros)
 by_cases q0:var=0<;>(refine Qb ?_;intros)
 case neg =>exact⟨_,.bool _ _,congrArg AV.bool (by unfold zA;exact lb)⟩
 by_cases q1:width=0<;>(refine Qb ?_;intros)
 case neg =>exact⟨_,.bool _ _,congrArg AV.bool (by unfold zA;exact lb)⟩
 by_cases q2:tgt=0<;>(refine Qb ?_;intros)
 case neg =>exact⟨_,.bool _ _,congrArg AV.bool (by unfold zA;exact lb)⟩
 by_cases q3:next=0<;>(refine Qb ?_;intros)
 case neg =>exact⟨_,.bool _ _,congrArg AV.bool (by unfold zA;exact lb)⟩
 by_cases q4:els=0<;>(refine Qb ?_;intros)
 case neg =>exact⟨_,.bool _ _,congrArg AV.bool (by unfold zA;exact lb)⟩
 exact⟨_,.bool _ _,congrArg AV.bool (by unfold zA;exact lb)⟩
theorem zvW (op var width next els tgt:Int) (e:List Ex) (cs:List Int) (h:op=5):zu Tryz.prog zaV [.agg [.int .i64 op,.int .i64 var,.int .i64 width,.int .i64 next,.int .i64 els,.int .u32 tgt,encL 5 encX e,za cs]] (·=.bool (zA op var width next els tgt cs.length)):=by
 refine fn_x zbo rfl ?_;unfold za9;have hB:=hBig
 (refine Qb ?_;intros)
 by_cases q0:var=0<;>(refine Qb ?_;intros)
 case neg =>exact⟨_,.bool _ _,congrArg AV.bool (by unfold zA;exact lb)⟩
 by_cases q1:width=0<;>(refine Qb ?_;intros)
 case neg =>exact⟨_,.bool _ _,congrArg AV.bool (by unfold zA;exact lb)⟩
 by_cases q2:next=0<;>(refine Qb ?_;intros)
 case neg =>exact⟨_,.bool _ _,congrArg AV.bool (by unfold zA;exact lb)⟩
 by_cases q3:els=0<;>(refine Qb ?_;intros)
 case neg =>exact⟨_,.bool _ _,congrArg AV.bool (by unfold zA;exact lb)⟩
 exact⟨_,.bool _ _,congrArg AV.bool (by unfold zA;exact lb)⟩
theorem zvU (op var width next els tgt:Int) (e:List Ex) (cs:List Int) (h:op=6):zu Tryz.prog zaV [.agg [.int .i64 op,.int .i64 var,.int .i64 width,.int .i64 next,.int .i64 els,.int .u32 tgt,encL 5 encX e,za cs]] (·=.bool (zA op var width next els tgt cs.length)):=by
 refine fn_x zbo rfl ?_;unfold za9;have hB:=hBig
 (refine Qb ?_;intros)
 by_cases q0:var=0<;>(refine Qb ?_;intros)
 case neg =>exact⟨_,.bool _ _,congrArg AV.bool (by unfold zA;exact lb)⟩
 by_cases q1:width=0<;>(refine Qb ?_;intros)
 case neg =>exact⟨_,.bool _ _,congrArg AV.bool (by unfold zA;exact lb)⟩
 by_cases q2:tgt=0<;>(refine Qb ?_;intros)
 case neg =>exact⟨_,.bool _ _,congrArg AV.bool (by unfold zA;exact lb)⟩
 by_cases q3:els=0<;>(refine Qb ?_;intros)
 case neg =>exact⟨_,.bool _ _,congrArg AV.bool (by unfold zA;exact lb)⟩
 exact⟨_,.bool _ _,congrArg AV.bool (by unfold zA;exact lb)⟩
theorem zxF (op var width next els tgt:Int) (e:List Ex) (cs:List Int) (h:op=7):zu Tryz.prog zaV [.agg [.int .i64 op,.int .i64 var,.int .i64 width,.int .i64 next,.int .i64 els,.int .u32 tgt,encL 5 encX e,za cs]] (·=.bool (zA op var width next els tgt cs.length)):=by
 refine fn_x zbo rfl ?_;unfold za9;have hB:=hBig
 by_cases q0:var=0
 case neg =>
  ((refine Qb ?_;intros);(repeat' with_reducible apply Wb)<;>(refine Qb ?_;intros);all_goals (exact⟨_,.bool _ _,congrArg AV.bool (by unfold zA;exact lb)⟩))
 by_cases q1:width=0
 case neg =>
  ((refine Qb ?_;intros);(repeat' with_reducible apply Wb)<;>(refine Qb ?_;intros);all_goals (exact⟨_,.bool _ _,congrArg AV.bool (by unfold zA;exact lb)⟩))
 by_cases q2:tgt=0
 case neg =>
  ((refine Qb ?_;intros);(repeat' with_reducible apply Wb)<;>(refine Qb ?_;intros);all_goals (exact⟨_,.bool _ _,congrArg AV.bool (by unfold zA;exact lb)⟩))
 by_cases q3:cs.length=0
 case neg =>
  ((refine Qb ?_;intros);(repeat' with_reducible apply Wb)<;>(refine Qb ?_;intros);all_goals (exact⟨_,.bool _ _,congrArg AV.bool (by unfold zA;exact lb)⟩))
 ((refine Qb ?_;intros);(repeat' with_reducible apply Wb)<;>(refine Qb ?_;intros);all_goals (exact⟨_,.bool _ _,congrArg AV.bool (by unfold zA;exact lb)⟩))
theorem zwN (op var width next els tgt:Int) (e:List Ex) (cs:List Int) (h:op=8):zu Tryz.prog zaV [.agg [.int .i64 op,.int .i64 var,.int .i64 width,.int .i64 next,.int .i64 els,.int .u32 tgt,encL 5 encX e,za cs]] (·=.bool (zA op var width next els tgt cs.length)):=by
 refine fn_x zbo rfl ?_;unfold za9;have hB:=hBig
 (refine Qb ?_;intros)
 by_cases g1:1≤cs.length<;>(refine Qb ?_;intros)
 case neg =>exact⟨_,.bool _ _,congrArg AV.bool (by unfold zA;exact lb)⟩
 by_cases g2:cs.length≤64<;>(refine Qb ?_;intros)
 case neg =>exact⟨_,.bool _ _,congrArg AV.bool (by unfold zA;exact lb)⟩
 by_cases q0:var=0<;>(refine Qb ?_;intros)
 case neg =>exact⟨_,.bool _ _,congrArg AV.bool (by unfold zA;exact lb)⟩
 by_cases q1:width=0<;>(refine Qb ?_;intros)
 case neg =>exact⟨_,.bool _ _,congrArg AV.bool (by unfold zA;exact lb)⟩
 by_cases q2:tgt=0<;>(refine Qb ?_;intros)
 case neg =>exact⟨_,.bool _ _,congrArg AV.bool (by unfold zA;exact lb)⟩
 by_cases q3:next=0<;>(refine Qb ?_;intros)
 case neg =>exact⟨_,.bool _ _,congrArg AV.bool (by unfold zA;exact lb)⟩
 by_cases q4:els=0<;>(refine Qb ?_;intros)
 case neg =>exact⟨_,.bool _ _,congrArg AV.bool (by unfold zA;exact lb)⟩
 exact⟨_,.bool _ _,congrArg AV.bool (by unfold zA;exact lb)⟩
theorem zw6 (op var width next els tgt:Int) (e:List Ex) (cs:List Int) (h:op=9):zu Tryz.prog zaV [.agg [.int .i64 op,.int .i64 var,.int .i64 width,.int .i64 next,.int .i64 els,.int .u32 tgt,encL 5 encX e,za cs]] (·=.bool (zA op var width next els tgt cs.length)):=by
 refine fn_x zbo rfl ?_;unfold za9;have hB:=hBig
 (refine Qb ?_;intros)
 by_cases q0:var=0<;>(refine Qb ?_;intros)
 case neg =>exact⟨_,.bool _ _,congrArg AV.bool (by unfold zA;exact lb)⟩
 by_cases q1:width=0<;>(refine Qb ?_;intros)
 case neg =>exact⟨_,.bool _ _,congrArg AV.bool (by unfold zA;exact lb)⟩
 by_cases q2:tgt=0<;>(refine Qb ?_;intros)
 case neg =>exact⟨_,.bool _ _,congrArg AV.bool (by unfold zA;exact lb)⟩
 by_cases q3:next=0<;>(refine Qb ?_;intros)
 case neg =>exact⟨_,.bool _ _,congrArg AV.bool (by unfold zA;exact lb)⟩
 by_cases q4:els=0<;>(refine Qb ?_;intros)
 case neg =>exact⟨_,.bool _ _,congrArg AV.bool (by unfold zA;exact lb)⟩
 exact⟨_,.bool _ _,congrArg AV.bool (by unfold zA;exact lb)⟩
theorem ztY (op var width next els tgt:Int) (e:List Ex) (cs:List Int) (h:op=10):zu Tryz.prog zaV [.agg [.int .i64 op,.int .i64 var,.int .i64 width,.int .i64 next,.int .i64 els,.int .u32 tgt,encL 5 encX e,za cs]] (·=.bool (zA op var width next els tgt cs.length)):=by
 refine fn_x zbo rfl ?_;unfold za9;have hB:=hBig
 (refine Qb ?_;intros)
 by_cases q0:var=0<;>(refine Qb ?_;intros)
 case neg =>exact⟨_,.bool _ _,congrArg AV.bool (by unfold zA;exact lb)⟩
 by_cases q1:width=0<;>(refine Qb ?_;intros)
 case neg =>exact⟨_,.bool _ _,congrArg AV.bool (by unfold zA;exact lb)⟩
 by_cases q2:tgt=0<;>(refine Qb ?_;intros)
 case neg =>exact⟨_,.bool _ _,congrArg AV.bool (by unfold zA;exact lb)⟩
 by_cases q3:next=0<;>(refine Qb ?_;intros)
 case neg =>exact⟨_,.bool _ _,congrArg AV.bool (by unfold zA;exact lb)⟩
 by_cases q4:els=0<;>(refine Qb ?_;intros)
 case neg =>exact⟨_,.bool _ _,congrArg AV.bool (by unfold zA;exact lb)⟩
 exact⟨_,.bool _ _,congrArg AV.bool (by unfold zA;exact lb)⟩
theorem zvx (op var width next els tgt:Int) (e:List Ex) (cs:List Int) (h1:1≤op) (h2:op≤10):zu Tryz.prog zaV [.agg [.int .i64 op,.int .i64 var,.int .i64 width,.int .i64 next,.int .i64 els,.int .u32 tgt,encL 5 encX e,za cs]] (·=.bool (zA op var width next els tgt cs.length)):=by
 by_cases h10:op=1
 · exact zwK op var width next els tgt e cs h10
 by_cases h20:op=2
 · exact zwk op var width next els tgt e cs h20
 by_cases h30:op=3
 · exact zxr op var width next els tgt e cs h30
 by_cases h40:op=4
 · exact zxp op var width next els tgt e cs h40
 by_cases h50:op=5
 · exact zvW op var width next els tgt e cs h50
 by_cases h60:op=6
 · exact zvU op var width next els tgt e cs h60
 by_cases h70:op=7
 · exact zxF op var width next els tgt e cs h70
 by_cases h80:op=8
 · exact zwN op var width next els tgt e cs h80
 by_cases h90:op=9
 · exact zw6 op var width next els tgt e cs h90
 by_cases h100:op=10
 · exact ztY op var width next els tgt e cs h100
 omega
def zdg:List Ex→Int
 | []=>0
 | x::l=>if zcj x≠0 then zcj x else zdg l
theorem zpU {l:List Ex} {i:Nat} (h:i < l.length):zdg (l.drop i)=if zcj l[i]≠0 then zcj l[i] else zdg (l.drop (i+1)):=by rw[List.drop_eq_getElem_cons h,zdg]
def zjD (op var width next els tgt:Int) (e:List Ex) (cs:List Int):Int :=
 if (op < 1∨10 < op)∨zR op≠e.length then 2 else if zdg e≠0 then zdg e else if zA op var width next els tgt cs.length=true then 0 else 2
theorem Qi {p q:Prop}(k:q)(h:Im q p:=by(repeat first|simp(disch:=try exact dis1) only[evD,Nat.reduceBEq,Nat.reduceAdd,Nat.reduceLeDiff,dT,dF,fldP,za,zD] | ((with_reducible apply Im.i);intro _) | ((with_reducible apply Im.a);omega));exact Im.r):p:=h k
theorem QV {p q:Prop}(k:q)(h:Im q p:=by(repeat first|simp(disch:=try exact dis1) only[evD,Nat.reduceBEq,Nat.reduceAdd,Nat.reduceLeDiff,dF,fldP,za] | ((with_reducible apply Im.i);intro _) | ((with_reducible apply Im.a);omega));exact Im.r):p:=h k
theorem Qg {p q:Prop}(k:q)(h:Im q p:=by(repeat first|simp(disch:=try exact dis1) only[evD,Nat.reduceBEq,Nat.reduceAdd,Nat.reduceLeDiff,dF] | ((with_reducible apply Im.i);intro _) | ((with_reducible apply Im.a);omega));exact Im.r):p:=h k
theorem QG {p q:Prop}(k:q)(h:Im q p:=by(repeat first|simp(disch:=try exact dis1) only[evD,Nat.reduceBEq,Nat.reduceAdd,Nat.reduceLeDiff,fldP,zad,tab,List.getD_cons_zero,List.getD_cons_succ,za] | ((with_reducible apply Im.i);intro _) | ((with_reducible apply Im.a);omega));exact Im.r):p:=h k
theorem zoF (op var width next els tgt:Int) (e:List Ex) (cs:List Int):zu Tryz.prog zd4 [.agg [.int .i64 op,.int .i64 var,.int .i64 width,.int .i64 next,.int .i64 els,.int .u32 tgt,encL 5 encX e,za cs]] (·=.int .i64 (zjD op var width next els tgt e cs)):=by
 refine fn_x zoH rfl ?_;unfold ziY zjD;have hB:=hBig
 by_cases h1:1≤op
 case neg =>
  rw[if_pos (by omega)]
  (refine Qi ?_;intros)
  exact⟨_,.int _ _ _,rfl⟩
 by_cases h2:op≤10
 case neg =>
  rw[if_pos (by omega)]
  (refine Qi ?_;intros)
  exact⟨_,.int _ _ _,rfl⟩
 (refine QV ?_;intros)
 refine zai (zd (zuN op h1 h2) rfl) ?_;generalize zR op=n
 by_cases h3:n=e.length
 case neg =>
  rw[if_pos (by omega)]
  (refine Qi ?_;intros)
  exact⟨_,.int _ _ _,rfl⟩
 rw[if_neg (by omega)]
 (repeat first|simp(disch:=try exact dis1) only[evD,Nat.reduceBEq,Nat.reduceAdd,Nat.reduceLeDiff,dT,dF,fldP,za]|with_reducible first|intro _|refine aJ ?_)
 refine zk (fun i:Nat=>([(1,encP 8 [.int .i64 op,.int .i64 var,.int .i64 width,.int .i64 next,.int .i64 els,.int .u32 tgt,encL 5 encX e,za cs]),(3,.int .i64 i)],[])) 0 (fun i=>i≤e.length∧zdg (e.drop i)=zdg e) (fun i=>e.length - i) 0 ⟨Nat.zero_le _,rfl⟩ (Ent.keep rfl fin5) ?_;rintro i ⟨hi,hgo⟩ wf;unfold zgz
 by_cases hl:i < e.length
 ·
  rw[zpU hl] at hgo
  (repeat first|simp(disch:=try exact dis1) only[evD,Nat.reduceBEq,Nat.reduceAdd,Nat.reduceLeDiff,fldP,dT,zq hl,zaJ,zal]|with_reducible first|intro _|refine aJ ?_)
  refine ze (zd (zi0 e[i]) (flX rfl)) ?_
  by_cases hx:zcj e[i]=0
  ·
   rw[if_neg (by omega)] at hgo
   (refine Qg ?_;intros)
   exact⟨i+1,⟨by omega,hgo⟩,by omega,Ent.keep rfl fin5⟩
  ·
   rw[if_pos hx] at hgo;rw[←hgo,if_pos hx]
   (repeat first|simp(disch:=try exact dis1) only[evD,Nat.reduceBEq,Nat.reduceAdd,Nat.reduceLeDiff,dT,zD]|with_reducible first|intro _|refine aJ ?_)
   exact⟨_,.int _ _ _,rfl⟩
 rw[Wd (by omega),zdg] at hgo;rw[←hgo,if_neg (by omega)]
 (refine Qh ?_;intros)
 unfold zf8
 (refine QG ?_;intros)
 refine ze (zd (zsH op var width next els tgt e cs h1 h2) rfl) ?_
 cases hu:zH op var width next els tgt cs.length with
 |
  false =>
  unfold zH at hu;have hu2:=of_decide_eq_false hu;rw[if_neg (by unfold zA;rw[dF (fun h=>hu2 h.1)];simp)]
  (refine Qi ?_;intros)
  exact⟨_,.int _ _ _,rfl⟩
 |
  true =>
  unfold zH at hu;have hu2:=of_decide_eq_true hu
  (refine Qi ?_;intros)
  refine ze (zd (zor var) rfl) ?_;unfold zs3
  by_cases hv:0≤var∧var < 65536
  case neg =>
   rw[if_neg (by unfold zA;rw[dF (fun h=>hv h.2.1)];simp)]
   (refine Qi ?_;intros)
   exact⟨_,.int _ _ _,rfl⟩
  (refine Qi ?_;intros)
  by_cases o2:op=2
  ·
   (refine Qi ?_;intros)
   by_cases w1:width=1
   ·
    rw[if_pos (by unfold zA;exact dT ⟨hu2,hv,by omega,by omega⟩)]
    (refine Qi ?_;intros)
    exact⟨_,.int _ _ _,rfl⟩
   (refine Qi ?_;intros)
   by_cases w2:width=2
   ·
    rw[if_pos (by unfold zA;exact dT ⟨hu2,hv,by omega,by omega⟩)]
    (refine Qi ?_;intros)
    exact⟨_,.int _ _ _,rfl⟩
   (refine Qi ?_;intros)
   by_cases w4:width=4
   ·
    rw[if_pos (by unfold zA;exact dT ⟨hu2,hv,by omega,by omega⟩)]
    (refine Qi ?_;intros)
    exact⟨_,.int _ _ _,rfl⟩
   rw[if_neg (by unfold zA;rw[dF (fun h=>by have:=h.2.2.1 o2;omega)];simp)]
   (refine Qi ?_;intros)
   exact⟨_,.int _ _ _,rfl⟩
  (refine Qi ?_;intros)
  by_cases o8:op=8
  ·
   (refine Qi ?_;intros)
   by_cases c1:1≤cs.length
   case neg =>
    rw[if_neg (by unfold zA;rw[dF (fun h=>by have:=h.2.2.2 o8;omega)];simp)]
    (refine Qi ?_;intros)
    exact⟨_,.int _ _ _,rfl⟩
   (refine Qi ?_;intros)
   by_cases c2:cs.length≤64
   case neg =>
    rw[if_neg (by unfold zA;rw[dF (fun h=>by have:=h.2.2.2 o8;omega)];simp)]
    (refine Qi ?_;intros)
    exact⟨_,.int _ _ _,rfl⟩
   rw[if_pos (by unfold zA;exact dT ⟨hu2,hv,by omega,by omega⟩)]
   (refine Qi ?_;intros)
   exact⟨_,.int _ _ _,rfl⟩
  rw[if_pos (by unfold zA;exact dT ⟨hu2,hv,by omega,by omega⟩)]
  (refine Qi ?_;intros)
  exact⟨_,.int _ _ _,rfl⟩
theorem zxq {op:Int}:zR op < 0↔(op < 1∨10 < op):=by
 unfold zR;constructor
 ·
  intro h
  repeat' split at h
  all_goals omega
 · intro h;rw[if_neg (by omega),if_neg (by omega),if_neg (by omega)];omega
theorem Qo {p q:Prop}(k:q)(h:Im q p:=by(repeat first|simp(disch:=try exact dis1) only[evD,Nat.reduceBEq,Nat.reduceAdd,Nat.reduceLeDiff,dT,dF,fldP,za,zaN] | ((with_reducible apply Im.i);intro _) | ((with_reducible apply Im.a);omega));exact Im.r):p:=h k
theorem Qau {p:Prop}(h:p:=by(try simp only[evWB,Nat.reduceBEq,Nat.reduceAdd,Nat.reduceSub,Nat.reduceLeDiff,Nat.reduceLT,implies_true])<;>exact fin2):p:=h
theorem zoY (op var width next els tgt:Int) (e:List Ex) (cs:List Int):zu Tryz.prog zeK [.agg [.int .i64 op,.int .i64 var,.int .i64 width,.int .i64 next,.int .i64 els,.int .u32 tgt,encL 5 encX e,za cs]] (·=.int .i64 (zjD op var width next els tgt e cs)):=by
 refine fn_x zpg rfl ?_;unfold zjY zjD;have hB:=hBig
 (refine Qo ?_;intros)
 refine ze (zd (znI op) rfl) ?_;have hneg:=zxq (op:=op);generalize zR op=n at hneg ⊢
 by_cases h1:n < 0
 ·
  rw[if_pos (.inl (hneg.1 h1))]
  (refine Qo ?_;intros)
  exact⟨_,.int _ _ _,rfl⟩
 have hop:¬(op < 1∨10 < op):=fun h=>h1 (hneg.2 h)
 (refine Qo ?_;intros)
 by_cases h3:n=e.length
 case neg =>
  rw[if_pos (.inr h3)]
  (refine Qo ?_;intros)
  exact⟨_,.int _ _ _,rfl⟩
 rw[if_neg (by omega)]
 (refine Qo ?_;intros)
 refine zk (fun i:Nat=>([(1,encP 8 [.int .i64 op,.int .i64 var,.int .i64 width,.int .i64 next,.int .i64 els,.int .u32 tgt,encL 5 encX e,za cs]),(20,encL 5 encX e),(21,.int .i64 e.length),(22,.int .i64 i)],[])) 0 (fun i=>i≤e.length∧zdg (e.drop i)=zdg e) (fun i=>e.length - i) 0 ⟨Nat.zero_le _,rfl⟩ (Ent.keep rfl fin5) ?_;rintro i ⟨hi,hgo⟩ wf;unfold zhh
 by_cases hl:i < e.length
 ·
  rw[zpU hl] at hgo
  (repeat first|simp(disch:=try exact dis1) only[evD,Nat.reduceBEq,Nat.reduceAdd,Nat.reduceLeDiff,fldP,dT,zq hl,zaJ,zal]|with_reducible first|intro _|refine aJ ?_)
  refine ze (zd (zp9 e[i]) (flX rfl)) ?_
  by_cases hx:zcj e[i]=0
  ·
   rw[if_neg (by omega)] at hgo
   (refine Qg ?_;intros)
   exact⟨i+1,⟨by omega,hgo⟩,by omega,(Ent.tab [] [] rfl Qau Qau)⟩
  ·
   rw[if_pos hx] at hgo;rw[←hgo,if_pos hx]
   (repeat first|simp(disch:=try exact dis1) only[evD,Nat.reduceBEq,Nat.reduceAdd,Nat.reduceLeDiff,dT,zaN]|with_reducible first|intro _|refine aJ ?_)
   exact⟨_,.int _ _ _,rfl⟩
 rw[Wd (by omega),zdg] at hgo;rw[←hgo,if_neg (by omega)]
 (refine Qh ?_;intros)
 unfold zg5
 (refine QG ?_;intros)
 refine ze (zd (zvx op var width next els tgt e cs (by omega) (by omega)) rfl) ?_
 cases zA op var width next els tgt cs.length with
 |
  false =>
  (refine Qo ?_;intros)
  exact⟨_,.int _ _ _,rfl⟩
 |
  true =>
  (refine Qo ?_;intros)
  exact⟨_,.int _ _ _,rfl⟩
structure St where
 op:Int
 var:Int
 width:Int
 next:Int
 els:Int
 tgt:Int
 e:List Ex
 cases:List Int
def St.cells (s:St):List AV:=[.int .i64 s.op,.int .i64 s.var,.int .i64 s.width,.int .i64 s.next,.int .i64 s.els,.int .u32 s.tgt,encL 5 encX s.e,za s.cases]
structure Bl where
 addr:Int
 stmts:List St
def Bl.cells (b:Bl):List AV:=[.int .u32 b.addr,encL 8 St.cells b.stmts]
structure G where
 addr:Int
 blocks:List Bl
def G.cells (g:G):List AV:=[.int .u32 g.addr,encL 2 Bl.cells g.blocks]
theorem St.len (s:St):s.cells.length=8:=rfl
theorem St.flat (s:St):zM s.cells=true:=rfl
theorem St.eight (s:St):[s.cells.getD 0 .undef,s.cells.getD 1 .undef,s.cells.getD 2 .undef,s.cells.getD 3 .undef,s.cells.getD 4 .undef,s.cells.getD 5 .undef,s.cells.getD 6 .undef,s.cells.getD 7 .undef]=s.cells:=rfl
def zcg (s:St):Bool:=decide (6≤s.op∧s.op≤10)
def zan (s:St):List Int:=if s.op=6 then [s.next] else if s.op=7 then [s.next,s.els] else if s.op=8 then s.cases else []
def St.check (s:St):Int:=zjD s.op s.var s.width s.next s.els s.tgt s.e s.cases
theorem zoC (s:St):zu Tryz.prog zd4 [.agg s.cells] (·=.int .i64 s.check):=zoF _ _ _ _ _ _ _ _
theorem zqK (s:St):zu Tryz.prog zeK [.agg s.cells] (·=.int .i64 s.check):=zoY _ _ _ _ _ _ _ _
theorem zxa (s:St):zu Tryz.prog znF [.agg s.cells] (·=.bool (zcg s)):=by
 refine fn_x zwU rfl ?_;unfold zqJ;have hB:=hBig;obtain⟨op,var,width,next,els,tgt,e,cs⟩:=s;unfold zcg
 by_cases h1:6≤op
 ·
  (repeat first|simp(disch:=try exact dis1) only[evD,Nat.reduceBEq,Nat.reduceAdd,Nat.reduceLeDiff,dT,fldP,za,St.cells,zlZ]|with_reducible first|intro _|refine aJ ?_)
  exact⟨_,.bool _ _,congrArg AV.bool (decide_eq_decide.2 (by omega))⟩
 ·
  (repeat first|simp(disch:=try exact dis1) only[evD,Nat.reduceBEq,Nat.reduceAdd,Nat.reduceLeDiff,dF,fldP,za,St.cells,zlZ]|with_reducible first|intro _|refine aJ ?_)
  exact⟨_,.bool _ _,rfl⟩
theorem zjf (s:St):zu Tryz.prog zcH [.agg s.cells] (·=.bool (zcg s)):=by
 refine fn_x zoB rfl ?_;unfold zi1;have hB:=hBig;obtain⟨op,var,width,next,els,tgt,e,cs⟩:=s;unfold zcg
 by_cases h1:6≤op
 ·
  (repeat first|simp(disch:=try exact dis1) only[evD,Nat.reduceBEq,Nat.reduceAdd,Nat.reduceLeDiff,dT,fldP,za,St.cells,ze8]|with_reducible first|intro _|refine aJ ?_)
  exact⟨_,.bool _ _,congrArg AV.bool (decide_eq_decide.2 (by omega))⟩
 ·
  (repeat first|simp(disch:=try exact dis1) only[evD,Nat.reduceBEq,Nat.reduceAdd,Nat.reduceLeDiff,dF,fldP,za,St.cells,ze8]|with_reducible first|intro _|refine aJ ?_)
  exact⟨_,.bool _ _,rfl⟩
theorem Qx {p q:Prop}(k:q)(h:Im q p:=by(repeat first|simp(disch:=try exact dis1) only[evD,Nat.reduceBEq,Nat.reduceAdd,Nat.reduceLeDiff,dT,dF,fldP,za,St.cells,zc9] | ((with_reducible apply Im.i);intro _) | ((with_reducible apply Im.a);omega));exact Im.r):p:=h k
theorem zq5 (s:St):zu Tryz.prog zir [.agg s.cells] (·=za (zan s)):=by
 refine fn_x zrp rfl ?_;unfold zlj;have hB:=hBig;obtain⟨op,var,width,next,els,tgt,e,cs⟩:=s;unfold zan;simp only
 by_cases h6:op=6
 ·
  rw[if_pos h6]
  (refine Qx ?_;intros)
  exact⟨_,zbQ (l:=[next]) trivial rfl (by simp only[List.length_singleton];omega),rfl⟩
 rw[if_neg h6]
 by_cases h7:op=7
 ·
  rw[if_pos h7]
  (refine Qx ?_;intros)
  exact⟨_,zbQ (l:=[next,els]) trivial rfl (by simp only[List.length_cons,List.length_nil];omega),rfl⟩
 rw[if_neg h7]
 by_cases h8:op=8
 ·
  rw[if_pos h8]
  (refine Qx ?_;intros)
  exact⟨_,zaq rfl,rfl⟩
 rw[if_neg h8]
 (refine Qx ?_;intros)
 exact⟨_,zbQ (l:=[]) trivial rfl (by simp only[List.length_nil];omega),rfl⟩
end Go.Ab
namespace Go.Ab
open Go.RowKit Go.Proofs Go.Proofs.YtdhlfajcofgpkaaGreat
section
variable {HH:Type} {enc:TypeId × Value→HH} {w:World} {base:Nat} {spare:Nat→Bool} {held:Bool} {L:Nat→Prop} (hL:∀b,¬L b)
include hL
theorem zFs {fuel:Nat} {cs:List Value} {y:DataW HH × List MemPlace} (h:DataW.trod enc Tryz.prog w base spare held fuel 54 cs=some y):∃s:St,ElOk w L cs s.cells:=by
 have hcx:Tryz.prog.cellsOf 66=5:=by kernel_rfl
 obtain⟨xs,n,rfl,rfl,hlen,hxs,hf⟩:=DataW.trod_struct Tryz.underlying54 h
 have hc:Tryz.prog.cellsOf 54=8:=by kernel_rfl
 have hc3:Tryz.prog.cellsOf 3=1:=by kernel_rfl
 have hc22:Tryz.prog.cellsOf 22=1:=by kernel_rfl
 have hc26:Tryz.prog.cellsOf 26=1:=by kernel_rfl
 have hc52:Tryz.prog.cellsOf 52=1:=by kernel_rfl
 rw[hc] at hlen
 have hget:∀i,i < 8→xs[i]? = some (xs.getD i (.nil,[])):=fun i hi=>by rw[Wa,Wc (by rw[hxs];exact hi)];rfl
 match cs,hlen with
 |
  [c0,c1,c2,c3,c4,c5,c6,c7],_ =>
  have f0:DataW.trod enc Tryz.prog w base spare held n 3 (([c0,c1,c2,c3,c4,c5,c6,c7].drop 0).take (Tryz.prog.cellsOf 3))=some (xs.getD 0 (.nil,[])):=(hf 0 _ rfl).trans (hget 0 (by decide));rw[hc3] at f0;replace f0:DataW.trod enc Tryz.prog w base spare held n 3 [c0]=some (xs.getD 0 (.nil,[])):=f0;have f1:DataW.trod enc Tryz.prog w base spare held n 3 (([c0,c1,c2,c3,c4,c5,c6,c7].drop 1).take (Tryz.prog.cellsOf 3))=some (xs.getD 1 (.nil,[])):=(hf 1 _ rfl).trans (hget 1 (by decide));rw[hc3] at f1;replace f1:DataW.trod enc Tryz.prog w base spare held n 3 [c1]=some (xs.getD 1 (.nil,[])):=f1;have f2:DataW.trod enc Tryz.prog w base spare held n 3 (([c0,c1,c2,c3,c4,c5,c6,c7].drop 2).take (Tryz.prog.cellsOf 3))=some (xs.getD 2 (.nil,[])):=(hf 2 _ rfl).trans (hget 2 (by decide));rw[hc3] at f2;replace f2:DataW.trod enc Tryz.prog w base spare held n 3 [c2]=some (xs.getD 2 (.nil,[])):=f2;have f3:DataW.trod enc Tryz.prog w base spare held n 3 (([c0,c1,c2,c3,c4,c5,c6,c7].drop 3).take (Tryz.prog.cellsOf 3))=some (xs.getD 3 (.nil,[])):=(hf 3 _ rfl).trans (hget 3 (by decide));rw[hc3] at f3;replace f3:DataW.trod enc Tryz.prog w base spare held n 3 [c3]=some (xs.getD 3 (.nil,[])):=f3;have f4:DataW.trod enc Tryz.prog w base spare held n 3 (([c0,c1,c2,c3,c4,c5,c6,c7].drop 4).take (Tryz.prog.cellsOf 3))=some (xs.getD 4 (.nil,[])):=(hf 4 _ rfl).trans (hget 4 (by decide));rw[hc3] at f4;replace f4:DataW.trod enc Tryz.prog w base spare held n 3 [c4]=some (xs.getD 4 (.nil,[])):=f4;have f5:DataW.trod enc Tryz.prog w base spare held n 22 (([c0,c1,c2,c3,c4,c5,c6,c7].drop 5).take (Tryz.prog.cellsOf 22))=some (xs.getD 5 (.nil,[])):=(hf 5 _ rfl).trans (hget 5 (by decide));rw[hc22] at f5;replace f5:DataW.trod enc Tryz.prog w base spare held n 22 [c5]=some (xs.getD 5 (.nil,[])):=f5;have f6:DataW.trod enc Tryz.prog w base spare held n 52 (([c0,c1,c2,c3,c4,c5,c6,c7].drop 6).take (Tryz.prog.cellsOf 52))=some (xs.getD 6 (.nil,[])):=(hf 6 _ rfl).trans (hget 6 (by decide));rw[hc52] at f6;replace f6:DataW.trod enc Tryz.prog w base spare held n 52 [c6]=some (xs.getD 6 (.nil,[])):=f6;have f7:DataW.trod enc Tryz.prog w base spare held n 26 (([c0,c1,c2,c3,c4,c5,c6,c7].drop 7).take (Tryz.prog.cellsOf 26))=some (xs.getD 7 (.nil,[])):=(hf 7 _ rfl).trans (hget 7 (by decide));rw[hc26] at f7;replace f7:DataW.trod enc Tryz.prog w base spare held n 26 [c7]=some (xs.getD 7 (.nil,[])):=f7;obtain⟨n0,h0,w0⟩:=zhF Tryz.underlying3 f0;obtain⟨n1,h1,w1⟩:=zhF Tryz.underlying3 f1;obtain⟨n2,h2,w2⟩:=zhF Tryz.underlying3 f2;obtain⟨n3,h3,w3⟩:=zhF Tryz.underlying3 f3;obtain⟨n4,h4,w4⟩:=zhF Tryz.underlying3 f4;obtain⟨n5,h5,w5⟩:=zhF Tryz.underlying22 f5;obtain⟨l6,v6,h6,o6,w6⟩:=ztS (L:=L) (α:=Ex) (cells:=encX) hL Tryz.underlying52 hcx (fun fuel' hf' cs y h _=>zGu hL fuel' fuel' (Nat.le_refl _) cs y h) f6;obtain⟨l7,v7,h7,o7,w7⟩:=zBi Tryz.underlying26 Tryz.underlying3 hc3 hL f7;cases h0;cases h1;cases h2;cases h3;cases h4;cases h5;cases h6;cases h7;refine⟨⟨n0,n1,n2,n3,n4,n5,l6,l7⟩,fun j hj=>?_⟩
  match j with
  | 0=>exact⟨.int _ _ _ w0,rfl⟩
  | 1=>exact⟨.int _ _ _ w1,rfl⟩
  | 2=>exact⟨.int _ _ _ w2,rfl⟩
  | 3=>exact⟨.int _ _ _ w3,rfl⟩
  | 4=>exact⟨.int _ _ _ w4,rfl⟩
  | 5=>exact⟨.int _ _ _ w5,rfl⟩
  | 6=>exact⟨w6 _,o6⟩
  | 7=>exact⟨w7 _,o7⟩
  | j+8=>exact absurd hj (by simp)
theorem zEx {fuel:Nat} {cs:List Value} {y:DataW HH × List MemPlace} (h:DataW.trod enc Tryz.prog w base spare held fuel 51 cs=some y):∃b:Bl,ElOk w L cs b.cells:=by
 have hcs:Tryz.prog.cellsOf 54=8:=by kernel_rfl
 obtain⟨xs,n,rfl,rfl,hlen,hxs,hf⟩:=DataW.trod_struct Tryz.underlying51 h
 have hc:Tryz.prog.cellsOf 51=2:=by kernel_rfl
 have hc22:Tryz.prog.cellsOf 22=1:=by kernel_rfl
 have hc49:Tryz.prog.cellsOf 49=1:=by kernel_rfl
 rw[hc] at hlen
 have hget:∀i,i < 2→xs[i]? = some (xs.getD i (.nil,[])):=fun i hi=>by rw[Wa,Wc (by rw[hxs];exact hi)];rfl
 match cs,hlen with
 |
  [c0,c1],_ =>
  have f0:DataW.trod enc Tryz.prog w base spare held n 22 (([c0,c1].drop 0).take (Tryz.prog.cellsOf 22))=some (xs.getD 0 (.nil,[])):=(hf 0 _ rfl).trans (hget 0 (by decide));rw[hc22] at f0;replace f0:DataW.trod enc Tryz.prog w base spare held n 22 [c0]=some (xs.getD 0 (.nil,[])):=f0;have f1:DataW.trod enc Tryz.prog w base spare held n 49 (([c0,c1].drop 1).take (Tryz.prog.cellsOf 49))=some (xs.getD 1 (.nil,[])):=(hf 1 _ rfl).trans (hget 1 (by decide));rw[hc49] at f1;replace f1:DataW.trod enc Tryz.prog w base spare held n 49 [c1]=some (xs.getD 1 (.nil,[])):=f1;obtain⟨n0,h0,w0⟩:=zhF Tryz.underlying22 f0;obtain⟨l1,v1,h1,o1,w1⟩:=zsQ (α:=St) (cells:=St.cells) (L:=L) Tryz.underlying49 hcs hL (fun _ _ _ h _=>zFs hL h) f1;cases h0;cases h1;refine⟨⟨n0,l1⟩,fun j hj=>?_⟩
  match j with
  | 0=>exact⟨.int _ _ _ w0,rfl⟩
  | 1=>exact⟨w1 _,o1⟩
  | j+2=>exact absurd hj (by simp)
theorem zE8 {fuel:Nat} {cs:List Value} {y:DataW HH × List MemPlace} (h:DataW.trod enc Tryz.prog w base spare held fuel 25 cs=some y):∃g:G,cs.length=2∧ElOk w L cs g.cells∧∀j,j < 2→∀ι,VR w L ι (cs.getD j undef) (g.cells.getD j .undef):=by
 have hcb:Tryz.prog.cellsOf 51=2:=by kernel_rfl
 obtain⟨xs,n,rfl,rfl,hlen,hxs,hf⟩:=DataW.trod_struct Tryz.underlying25 h
 have hc:Tryz.prog.cellsOf 25=2:=by kernel_rfl
 have hc22:Tryz.prog.cellsOf 22=1:=by kernel_rfl
 have hc23:Tryz.prog.cellsOf 23=1:=by kernel_rfl
 rw[hc] at hlen
 have hget:∀i,i < 2→xs[i]? = some (xs.getD i (.nil,[])):=fun i hi=>by rw[Wa,Wc (by rw[hxs];exact hi)];rfl
 match cs,hlen with
 |
  [c0,c1],_ =>
  have f0:DataW.trod enc Tryz.prog w base spare held n 22 (([c0,c1].drop 0).take (Tryz.prog.cellsOf 22))=some (xs.getD 0 (.nil,[])):=(hf 0 _ rfl).trans (hget 0 (by decide));rw[hc22] at f0;replace f0:DataW.trod enc Tryz.prog w base spare held n 22 [c0]=some (xs.getD 0 (.nil,[])):=f0;have f1:DataW.trod enc Tryz.prog w base spare held n 23 (([c0,c1].drop 1).take (Tryz.prog.cellsOf 23))=some (xs.getD 1 (.nil,[])):=(hf 1 _ rfl).trans (hget 1 (by decide));rw[hc23] at f1;replace f1:DataW.trod enc Tryz.prog w base spare held n 23 [c1]=some (xs.getD 1 (.nil,[])):=f1;obtain⟨n0,h0,w0⟩:=zhF Tryz.underlying22 f0;obtain⟨l1,v1,h1,o1,w1⟩:=zsQ (α:=Bl) (cells:=Bl.cells) (L:=L) Tryz.underlying23 hcb hL (fun _ _ _ h _=>zEx hL h) f1;cases h0;cases h1;refine⟨⟨n0,l1⟩,rfl,fun j hj=>?_,fun j hj ι=>?_⟩
  ·
   match j with
   | 0=>exact⟨.int _ _ _ w0,rfl⟩
   | 1=>exact⟨w1 _,o1⟩
   | j+2=>exact absurd hj (by simp)
  ·
   match j with
   | 0=>exact .int _ _ _ w0
   | 1=>exact w1 _
   | j+2=>omega
theorem open_graph {v:Value} {d:DataW HH} {ps:List MemPlace} (hv:Value.okWide Tryz.prog w .any base 25 v) {b2:Nat} (h:DataW.Trod enc Tryz.prog w b2 spare held 25 v d ps):∃g:G,True∧∀ι,VR w L ι v (.agg g.cells):=by
 obtain⟨fuel,hf⟩:=h;unfold Value.okWide at hv;rw[Tryz.underlying25] at hv;simp only at hv;obtain⟨cs,rfl,_,_⟩:=hv;have hf':DataW.trod enc Tryz.prog w b2 spare held fuel 25 cs.toList=some (d,ps):=hf;obtain⟨g,h1,h2,h3⟩:=zE8 hL hf'
 refine⟨g,trivial,fun ι=>.agg ι cs _ (by
  have:cs.size=2:=by simpa using h1
  rw[this];rfl) (fun i v hi=>?_) (fun i v a hi ha=>?_)⟩
 ·
  have hi2:i < cs.size:=by
   rcases Nat.lt_or_ge i cs.size with h|h
   · exact h
   · rw[We h] at hi;cases hi
  have:=(h2 i (by simpa using hi2)).2;rw[Wa,Wf,hi] at this;exact this
 ·
  have hi2:i < cs.size:=by
   rcases Nat.lt_or_ge i cs.size with h|h
   · exact h
   · rw[We h] at hi;cases hi
  have hi3:i < 2:=by rw[←h1];simpa using hi2
  have:=h3 i hi3 ι;rw[Wa,Wf,hi,Wa,ha] at this;exact this
end
end Go.Ab
namespace Go.Ab
open Go.RowKit Go.Proofs Go.Proofs.YtdhlfajcofgpkaaGreat Go.ChangeShapes Go.WideShapes
theorem zrQ {HH:Type} {enc:TypeId × Value→HH} {w:World} {base b2:Nat} {spare:Nat→Bool} {held:Bool} {L:Nat→Prop} (hL:∀b,¬L b) {t e:TypeId} {k:IntKind} (ht:Tryz.prog.underlying t=some (.slice e)) (he:Tryz.prog.underlying e=some (.int k)) (hs:Tryz.prog.cellsOf e=1)
  {v:Value} {d:DataW HH} {ps:List MemPlace} (hv:Value.okWide Tryz.prog w .any base t v) (h:DataW.Trod enc Tryz.prog w b2 spare held t v d ps):∃l:List Int,True∧∀ι,VR w L ι v (encL 1 (fun n=>[.int k n]) l):=by
 obtain⟨a0,len,cap,rfl⟩:=okWide_slice ht hv;obtain⟨fuel,hf⟩:=h;obtain⟨l,v2,h1,_,h3⟩:=zBi ht he hs hL hf
 have:v2=.slice a0 len cap:=by simp[Value.cells] at h1;exact h1.symm
 subst this;exact⟨l,trivial,h3⟩
theorem open_intsI {HH:Type} {enc:TypeId × Value→HH} {w:World} {base b2:Nat} {spare:Nat→Bool} {held:Bool} {L:Nat→Prop} (hL:∀b,¬L b)
  {v:Value} {d:DataW HH} {ps:List MemPlace} (hv:Value.okWide Tryz.prog w .any base 26 v) (h:DataW.Trod enc Tryz.prog w b2 spare held 26 v d ps):∃l:List Int,True∧∀ι,VR w L ι v (za l) :=
 zrQ hL Tryz.underlying26 Tryz.underlying3 (by kernel_rfl) hv h
end Go.Ab
