/-
  Part 7 of the proof: how the calls of this program run, over values instead of memory, and what each function computes.
-/
import Derived.Test.YtdhlfajcofgpkaaGreatKf
set_option maxRecDepth 100000
set_option linter.unusedVariables false
set_option linter.unusedSimpArgs false
set_option linter.unnecessarySimpa false
set_option linter.unusedSectionVars false
namespace Go.Ab
open Go.RowKit Go.Proofs
def zU (op:Int):Int:=if op=2 then 2 else if op=1∨op=4∨op=7∨op=8 then 1 else if op=3∨op=5∨op=6∨op=9∨op=10 then 0 else -1
def zF (op var width next els tgt:Int) (k:Nat):Bool:=decide (((op=1∨op=3)∨var=0)∧(op=2∨width=0)∧((op=6∨op=7)∨next=0)∧(op=7∨els=0)∧(op=5∨tgt=0)∧(op=8∨k=0))
def zy (op var width next els tgt:Int) (k:Nat):Bool:=decide ((((op=1∨op=3)∨var=0)∧(op=2∨width=0)∧((op=6∨op=7)∨next=0)∧(op=7∨els=0)∧(op=5∨tgt=0)∧(op=8∨k=0))∧(0≤var∧var < 65536)∧(op=2→width=1∨width=2∨width=4)∧(op=8→1≤k∧k≤64))
theorem zll (op:Int):zz Tryz.prog zeq [.int .i64 op] (·=.int .i64 (zU op)):=by
 refine fn_x zlv rfl ?_
 unfold zgR
 by_cases h1:op=1
 ·
  have hr:zU op=1:=by unfold zU;subst h1;rfl
  rw [hr]
  (repeat first | simp (disch:=try exact dis1) only [evD,Nat.reduceBEq,Nat.reduceAdd,Nat.reduceLeDiff,dT,dF,zR] | with_reducible intro _ | ((with_reducible apply And.intro);omega))
  exact ⟨_, .int _ _ _,rfl⟩
 by_cases h4:op=4
 ·
  have hr:zU op=1:=by unfold zU;subst h4;rfl
  rw [hr]
  (repeat first | simp (disch:=try exact dis1) only [evD,Nat.reduceBEq,Nat.reduceAdd,Nat.reduceLeDiff,dT,dF,zR] | with_reducible intro _ | ((with_reducible apply And.intro);omega))
  exact ⟨_, .int _ _ _,rfl⟩
 by_cases h7:op=7
 ·
  have hr:zU op=1:=by unfold zU;subst h7;rfl
  rw [hr]
  (repeat first | simp (disch:=try exact dis1) only [evD,Nat.reduceBEq,Nat.reduceAdd,Nat.reduceLeDiff,dT,dF,zR] | with_reducible intro _ | ((with_reducible apply And.intro);omega))
  exact ⟨_, .int _ _ _,rfl⟩
 by_cases h8:op=8
 ·
  have hr:zU op=1:=by unfold zU;subst h8;rfl
  rw [hr]
  (repeat first | simp (disch:=try exact dis1) only [evD,Nat.reduceBEq,Nat.reduceAdd,Nat.reduceLeDiff,dT,dF,zR] | with_reducible intro _ | ((with_reducible apply And.intro);omega))
  exact ⟨_, .int _ _ _,rfl⟩
 by_cases h2:op=2
 ·
  have hr:zU op=2:=by unfold zU;subst h2;rfl
  rw [hr]
  (repeat first | simp (disch:=try exact dis1) only [evD,Nat.reduceBEq,Nat.reduceAdd,Nat.reduceLeDiff,dT,dF,zR] | with_reducible intro _ | ((with_reducible apply And.intro);omega))
  exact ⟨_, .int _ _ _,rfl⟩
 by_cases h3:op=3
 ·
  have hr:zU op=0:=by unfold zU;subst h3;rfl
  rw [hr]
  (repeat first | simp (disch:=try exact dis1) only [evD,Nat.reduceBEq,Nat.reduceAdd,Nat.reduceLeDiff,dT,dF,zR] | with_reducible intro _ | ((with_reducible apply And.intro);omega))
  exact ⟨_, .int _ _ _,rfl⟩
 by_cases h5:op=5
 ·
  have hr:zU op=0:=by unfold zU;subst h5;rfl
  rw [hr]
  (repeat first | simp (disch:=try exact dis1) only [evD,Nat.reduceBEq,Nat.reduceAdd,Nat.reduceLeDiff,dT,dF,zR] | with_reducible intro _ | ((with_reducible apply And.intro);omega))
  exact ⟨_, .int _ _ _,rfl⟩
 by_cases h6:op=6
 ·
  have hr:zU op=0:=by unfold zU;subst h6;rfl
  rw [hr]
  (repeat first | simp (disch:=try exact dis1) only [evD,Nat.reduceBEq,Nat.reduceAdd,Nat.reduceLeDiff,dT,dF,zR] | with_reducible intro _ | ((with_reducible apply And.intro);omega))
  exact ⟨_, .int _ _ _,rfl⟩
 by_cases h9:op=9
 ·
  have hr:zU op=0:=by unfold zU;subst h9;rfl
  rw [hr]
  (repeat first | simp (disch:=try exact dis1) only [evD,Nat.reduceBEq,Nat.reduceAdd,Nat.reduceLeDiff,dT,dF,zR] | with_reducible intro _ | ((with_reducible apply And.intro);omega))
  exact ⟨_, .int _ _ _,rfl⟩
 by_cases h10:op=10
 ·
  have hr:zU op=0:=by unfold zU;subst h10;rfl
  rw [hr]
  (repeat first | simp (disch:=try exact dis1) only [evD,Nat.reduceBEq,Nat.reduceAdd,Nat.reduceLeDiff,dT,dF,zR] | with_reducible intro _ | ((with_reducible apply And.intro);omega))
  exact ⟨_, .int _ _ _,rfl⟩
 have hr:zU op = -1:=by unfold zU;rw [if_neg (by omega),if_neg (by omega),if_neg (by omega)]
 rw [hr]
 (repeat first | simp (disch:=try exact dis1) only [evD,Nat.reduceBEq,Nat.reduceAdd,Nat.reduceLeDiff,dT,dF,zR] | with_reducible intro _ | ((with_reducible apply And.intro);omega))
 exact ⟨_, .int _ _ _,rfl⟩
theorem zrl (op:Int) (h1:1≤op) (h2:op≤10):zz Tryz.prog zjN [.int .i64 op] (·=.int .i64 (zU op)):=by
 refine fn_x zq1 rfl ?_
 unfold zlO
 by_cases h2:op=2
 ·
  have hr:zU op=2:=by unfold zU;subst h2;rfl
  rw [hr]
  (repeat first | simp (disch:=try exact dis1) only [evD,Nat.reduceBEq,Nat.reduceAdd,Nat.reduceLeDiff,dT,dF,zb9] | with_reducible intro _ | ((with_reducible apply And.intro);omega))
  exact ⟨_, .int _ _ _,rfl⟩
 by_cases h1:op=1
 ·
  have hr:zU op=1:=by unfold zU;subst h1;rfl
  rw [hr]
  (repeat first | simp (disch:=try exact dis1) only [evD,Nat.reduceBEq,Nat.reduceAdd,Nat.reduceLeDiff,dT,dF,zb9] | with_reducible intro _ | ((with_reducible apply And.intro);omega))
  exact ⟨_, .int _ _ _,rfl⟩
 by_cases h4:op=4
 ·
  have hr:zU op=1:=by unfold zU;subst h4;rfl
  rw [hr]
  (repeat first | simp (disch:=try exact dis1) only [evD,Nat.reduceBEq,Nat.reduceAdd,Nat.reduceLeDiff,dT,dF,zb9] | with_reducible intro _ | ((with_reducible apply And.intro);omega))
  exact ⟨_, .int _ _ _,rfl⟩
 by_cases h7:op=7
 ·
  have hr:zU op=1:=by unfold zU;subst h7;rfl
  rw [hr]
  (repeat first | simp (disch:=try exact dis1) only [evD,Nat.reduceBEq,Nat.reduceAdd,Nat.reduceLeDiff,dT,dF,zb9] | with_reducible intro _ | ((with_reducible apply And.intro);omega))
  exact ⟨_, .int _ _ _,rfl⟩
 by_cases h8:op=8
 ·
  have hr:zU op=1:=by unfold zU;subst h8;rfl
  rw [hr]
  (repeat first | simp (disch:=try exact dis1) only [evD,Nat.reduceBEq,Nat.reduceAdd,Nat.reduceLeDiff,dT,dF,zb9] | with_reducible intro _ | ((with_reducible apply And.intro);omega))
  exact ⟨_, .int _ _ _,rfl⟩
 have hr:zU op=0:=by unfold zU;rw [if_neg (by omega),if_neg (by omega),if_pos (by omega)]
 rw [hr]
 (repeat first | simp (disch:=try exact dis1) only [evD,Nat.reduceBEq,Nat.reduceAdd,Nat.reduceLeDiff,dT,dF,zb9] | with_reducible intro _ | ((with_reducible apply And.intro);omega))
 exact ⟨_, .int _ _ _,rfl⟩
theorem zqG (op var width next els tgt:Int) (e:List Ex) (cs:List Int) (h:op=1):zz Tryz.prog zaw [.agg [.int .i64 op, .int .i64 var, .int .i64 width, .int .i64 next, .int .i64 els, .int .u32 tgt,encL 5 encX e,za cs]] (·=.bool (zF op var width next els tgt cs.length)):=by
 refine fn_x zaS rfl ?_
 unfold zaB
 have hB:=hBig
 (repeat first | simp (disch:=try exact dis1) only [evD,Nat.reduceBEq,Nat.reduceAdd,Nat.reduceLeDiff,dT,dF,fldP,za,zf] | with_reducible intro _ | ((with_reducible apply And.intro);omega))
 by_cases q0:width=0<;>(repeat first | simp (disch:=try exact dis1) only [evD,Nat.reduceBEq,Nat.reduceAdd,Nat.reduceLeDiff,dT,dF,fldP,za,zf] | with_reducible intro _ | ((with_reducible apply And.intro);omega))
 case neg =>
  exact ⟨_, .bool _ _,congrArg AV.bool (by unfold zF;exact lb)⟩
 by_cases q1:next=0<;>(repeat first | simp (disch:=try exact dis1) only [evD,Nat.reduceBEq,Nat.reduceAdd,Nat.reduceLeDiff,dT,dF,fldP,za,zf] | with_reducible intro _ | ((with_reducible apply And.intro);omega))
 case neg =>
  exact ⟨_, .bool _ _,congrArg AV.bool (by unfold zF;exact lb)⟩
 by_cases q2:els=0<;>(repeat first | simp (disch:=try exact dis1) only [evD,Nat.reduceBEq,Nat.reduceAdd,Nat.reduceLeDiff,dT,dF,fldP,za,zf] | with_reducible intro _ | ((with_reducible apply And.intro);omega))
 case neg =>
  exact ⟨_, .bool _ _,congrArg AV.bool (by unfold zF;exact lb)⟩
 by_cases q3:tgt=0<;>(repeat first | simp (disch:=try exact dis1) only [evD,Nat.reduceBEq,Nat.reduceAdd,Nat.reduceLeDiff,dT,dF,fldP,za,zf] | with_reducible intro _ | ((with_reducible apply And.intro);omega))
 case neg =>
  exact ⟨_, .bool _ _,congrArg AV.bool (by unfold zF;exact lb)⟩
 exact ⟨_, .bool _ _,congrArg AV.bool (by unfold zF;exact lb)⟩
theorem zra (op var width next els tgt:Int) (e:List Ex) (cs:List Int) (h:op=2):zz Tryz.prog zaw [.agg [.int .i64 op, .int .i64 var, .int .i64 width, .int .i64 next, .int .i64 els, .int .u32 tgt,encL 5 encX e,za cs]] (·=.bool (zF op var width next els tgt cs.length)):=by
 refine fn_x zaS rfl ?_
 unfold zaB
 have hB:=hBig
 (repeat first | simp (disch:=try exact dis1) only [evD,Nat.reduceBEq,Nat.reduceAdd,Nat.reduceLeDiff,dT,dF,fldP,za,zf] | with_reducible intro _ | ((with_reducible apply And.intro);omega))
 by_cases q0:var=0<;>(repeat first | simp (disch:=try exact dis1) only [evD,Nat.reduceBEq,Nat.reduceAdd,Nat.reduceLeDiff,dT,dF,fldP,za,zf] | with_reducible intro _ | ((with_reducible apply And.intro);omega))
 case neg =>
  exact ⟨_, .bool _ _,congrArg AV.bool (by unfold zF;exact lb)⟩
 by_cases q1:next=0<;>(repeat first | simp (disch:=try exact dis1) only [evD,Nat.reduceBEq,Nat.reduceAdd,Nat.reduceLeDiff,dT,dF,fldP,za,zf] | with_reducible intro _ | ((with_reducible apply And.intro);omega))
 case neg =>
  exact ⟨_, .bool _ _,congrArg AV.bool (by unfold zF;exact lb)⟩
 by_cases q2:els=0<;>(repeat first | simp (disch:=try exact dis1) only [evD,Nat.reduceBEq,Nat.reduceAdd,Nat.reduceLeDiff,dT,dF,fldP,za,zf] | with_reducible intro _ | ((with_reducible apply And.intro);omega))
 case neg =>
  exact ⟨_, .bool _ _,congrArg AV.bool (by unfold zF;exact lb)⟩
 by_cases q3:tgt=0<;>(repeat first | simp (disch:=try exact dis1) only [evD,Nat.reduceBEq,Nat.reduceAdd,Nat.reduceLeDiff,dT,dF,fldP,za,zf] | with_reducible intro _ | ((with_reducible apply And.intro);omega))
 case neg =>
  exact ⟨_, .bool _ _,congrArg AV.bool (by unfold zF;exact lb)⟩
 exact ⟨_, .bool _ _,congrArg AV.bool (by unfold zF;exact lb)⟩
theorem zrZ (op var width next els tgt:Int) (e:List Ex) (cs:List Int) (h:op=3):zz Tryz.prog zaw [.agg [.int .i64 op, .int .i64 var, .int .i64 width, .int .i64 next, .int .i64 els, .int .u32 tgt,encL 5 encX e,za cs]] (·=.bool (zF op var width next els tgt cs.length)):=by
 refine fn_x zaS rfl ?_
 unfold zaB
 have hB:=hBig
 (repeat first | simp (disch:=try exact dis1) only [evD,Nat.reduceBEq,Nat.reduceAdd,Nat.reduceLeDiff,dT,dF,fldP,za,zf] | with_reducible intro _ | ((with_reducible apply And.intro);omega))
 by_cases q0:width=0<;>(repeat first | simp (disch:=try exact dis1) only [evD,Nat.reduceBEq,Nat.reduceAdd,Nat.reduceLeDiff,dT,dF,fldP,za,zf] | with_reducible intro _ | ((with_reducible apply And.intro);omega))
 case neg =>
  exact ⟨_, .bool _ _,congrArg AV.bool (by unfold zF;exact lb)⟩
 by_cases q1:next=0<;>(repeat first | simp (disch:=try exact dis1) only [evD,Nat.reduceBEq,Nat.reduceAdd,Nat.reduceLeDiff,dT,dF,fldP,za,zf] | with_reducible intro _ | ((with_reducible apply And.intro);omega))
 case neg =>
  exact ⟨_, .bool _ _,congrArg AV.bool (by unfold zF;exact lb)⟩
 by_cases q2:els=0<;>(repeat first | simp (disch:=try exact dis1) only [evD,Nat.reduceBEq,Nat.reduceAdd,Nat.reduceLeDiff,dT,dF,fldP,za,zf] | with_reducible intro _ | ((with_reducible apply And.intro);omega))
 case neg =>
  exact ⟨_, .bool _ _,congrArg AV.bool (by unfold zF;exact lb)⟩
 by_cases q3:tgt=0<;>(repeat first | simp (disch:=try exact dis1) only [evD,Nat.reduceBEq,Nat.reduceAdd,Nat.reduceLeDiff,dT,dF,fldP,za,zf] | with_reducible intro _ | ((with_reducible apply And.intro);omega))
 case neg =>
  exact ⟨_, .bool _ _,congrArg AV.bool (by unfold zF;exact lb)⟩
 exact ⟨_, .bool _ _,congrArg AV.bool (by unfold zF;exact lb)⟩
theorem zqV (op var width next els tgt:Int) (e:List Ex) (cs:List Int) (h:op=4):zz Tryz.prog zaw [.agg [.int .i64 op, .int .i64 var, .int .i64 width, .int .i64 next, .int .i64 els, .int .u32 tgt,encL 5 encX e,za cs]] (·=.bool (zF op var width next els tgt cs.length)):=by
 refine fn_x zaS rfl ?_
 unfold zaB
 have hB:=hBig
 (repeat first | simp (disch:=try exact dis1) only [evD,Nat.reduceBEq,Nat.reduceAdd,Nat.reduceLeDiff,dT,dF,fldP,za,zf] | with_reducible intro _ | ((with_reducible apply And.intro);omega))
 by_cases q0:var=0<;>(repeat first | simp (disch:=try exact dis1) only [evD,Nat.reduceBEq,Nat.reduceAdd,Nat.reduceLeDiff,dT,dF,fldP,za,zf] | with_reducible intro _ | ((with_reducible apply And.intro);omega))
 case neg =>
  exact ⟨_, .bool _ _,congrArg AV.bool (by unfold zF;exact lb)⟩
 by_cases q1:width=0<;>(repeat first | simp (disch:=try exact dis1) only [evD,Nat.reduceBEq,Nat.reduceAdd,Nat.reduceLeDiff,dT,dF,fldP,za,zf] | with_reducible intro _ | ((with_reducible apply And.intro);omega))
 case neg =>
  exact ⟨_, .bool _ _,congrArg AV.bool (by unfold zF;exact lb)⟩
 by_cases q2:next=0<;>(repeat first | simp (disch:=try exact dis1) only [evD,Nat.reduceBEq,Nat.reduceAdd,Nat.reduceLeDiff,dT,dF,fldP,za,zf] | with_reducible intro _ | ((with_reducible apply And.intro);omega))
 case neg =>
  exact ⟨_, .bool _ _,congrArg AV.bool (by unfold zF;exact lb)⟩
 by_cases q3:els=0<;>(repeat first | simp (disch:=try exact dis1) only [evD,Nat.reduceBEq,Nat.reduceAdd,Nat.reduceLeDiff,dT,dF,fldP,za,zf] | with_reducible intro _ | ((with_reducible apply And.intro);omega))
 case neg =>
  exact ⟨_, .bool _ _,congrArg AV.bool (by unfold zF;exact lb)⟩
 by_cases q4:tgt=0<;>(repeat first | simp (disch:=try exact dis1) only [evD,Nat.reduceBEq,Nat.reduceAdd,Nat.reduceLeDiff,dT,dF,fldP,za,zf] | with_reducible intro _ | ((with_reducible apply And.intro);omega))
 case neg =>
  exact ⟨_, .bool _ _,congrArg AV.bool (by unfold zF;exact lb)⟩
 exact ⟨_, .bool _ _,congrArg AV.bool (by unfold zF;exact lb)⟩
theorem zqM (op var width next els tgt:Int) (e:List Ex) (cs:List Int) (h:op=5):zz Tryz.prog zaw [.agg [.int .i64 op, .int .i64 var, .int .i64 width, .int .i64 next, .int .i64 els, .int .u32 tgt,encL 5 encX e,za cs]] (·=.bool (zF op var width next els tgt cs.length)):=by
 refine fn_x zaS rfl ?_
 unfold zaB
 have hB:=hBig
 (repeat first | simp (disch:=try exact dis1) only [evD,Nat.reduceBEq,Nat.reduceAdd,Nat.reduceLeDiff,dT,dF,fldP,za,zf] | with_reducible intro _ | ((with_reducible apply And.intro);omega))
 by_cases q0:var=0<;>(repeat first | simp (disch:=try exact dis1) only [evD,Nat.reduceBEq,Nat.reduceAdd,Nat.reduceLeDiff,dT,dF,fldP,za,zf] | with_reducible intro _ | ((with_reducible apply And.intro);omega))
 case neg =>
  exact ⟨_, .bool _ _,congrArg AV.bool (by unfold zF;exact lb)⟩
 by_cases q1:width=0<;>(repeat first | simp (disch:=try exact dis1) only [evD,Nat.reduceBEq,Nat.reduceAdd,Nat.reduceLeDiff,dT,dF,fldP,za,zf] | with_reducible intro _ | ((with_reducible apply And.intro);omega))
 case neg =>
  exact ⟨_, .bool _ _,congrArg AV.bool (by unfold zF;exact lb)⟩
 by_cases q2:next=0<;>(repeat first | simp (disch:=try exact dis1) only [evD,Nat.reduceBEq,Nat.reduceAdd,Nat.reduceLeDiff,dT,dF,fldP,za,zf] | with_reducible intro _ | ((with_reducible apply And.intro);omega))
 case neg =>
  exact ⟨_, .bool _ _,congrArg AV.bool (by unfold zF;exact lb)⟩
 by_cases q3:els=0<;>(repeat first | simp (disch:=try exact dis1) only [evD,Nat.reduceBEq,Nat.reduceAdd,Nat.reduceLeDiff,dT,dF,fldP,za,zf] | with_reducible intro _ | ((with_reducible apply And.intro);omega))
 case neg =>
  exact ⟨_, .bool _ _,congrArg AV.bool (by unfold zF;exact lb)⟩
 exact ⟨_, .bool _ _,congrArg AV.bool (by unfold zF;exact lb)⟩
theorem zrN (op var width next els tgt:Int) (e:List Ex) (cs:List Int) (h:op=6):zz Tryz.prog zaw [.agg [.int .i64 op, .int .i64 var, .int .i64 width, .int .i64 next, .int .i64 els, .int .u32 tgt,encL 5 encX e,za cs]] (·=.bool (zF op var width next els tgt cs.length)):=by
 refine fn_x zaS rfl ?_
 unfold zaB
 have hB:=hBig
 (repeat first | simp (disch:=try exact dis1) only [evD,Nat.reduceBEq,Nat.reduceAdd,Nat.reduceLeDiff,dT,dF,fldP,za,zf] | with_reducible intro _ | ((with_reducible apply And.intro);omega))
 by_cases q0:var=0<;>(repeat first | simp (disch:=try exact dis1) only [evD,Nat.reduceBEq,Nat.reduceAdd,Nat.reduceLeDiff,dT,dF,fldP,za,zf] | with_reducible intro _ | ((with_reducible apply And.intro);omega))
 case neg =>
  exact ⟨_, .bool _ _,congrArg AV.bool (by unfold zF;exact lb)⟩
 by_cases q1:width=0<;>(repeat first | simp (disch:=try exact dis1) only [evD,Nat.reduceBEq,Nat.reduceAdd,Nat.reduceLeDiff,dT,dF,fldP,za,zf] | with_reducible intro _ | ((with_reducible apply And.intro);omega))
 case neg =>
  exact ⟨_, .bool _ _,congrArg AV.bool (by unfold zF;exact lb)⟩
 by_cases q2:els=0<;>(repeat first | simp (disch:=try exact dis1) only [evD,Nat.reduceBEq,Nat.reduceAdd,Nat.reduceLeDiff,dT,dF,fldP,za,zf] | with_reducible intro _ | ((with_reducible apply And.intro);omega))
 case neg =>
  exact ⟨_, .bool _ _,congrArg AV.bool (by unfold zF;exact lb)⟩
 by_cases q3:tgt=0<;>(repeat first | simp (disch:=try exact dis1) only [evD,Nat.reduceBEq,Nat.reduceAdd,Nat.reduceLeDiff,dT,dF,fldP,za,zf] | with_reducible intro _ | ((with_reducible apply And.intro);omega))
 case neg =>
  exact ⟨_, .bool _ _,congrArg AV.bool (by unfold zF;exact lb)⟩
 exact ⟨_, .bool _ _,congrArg AV.bool (by unfold zF;exact lb)⟩
theorem zqA (op var width next els tgt:Int) (e:List Ex) (cs:List Int) (h:op=7):zz Tryz.prog zaw [.agg [.int .i64 op, .int .i64 var, .int .i64 width, .int .i64 next, .int .i64 els, .int .u32 tgt,encL 5 encX e,za cs]] (·=.bool (zF op var width next els tgt cs.length)):=by
 refine fn_x zaS rfl ?_
 unfold zaB
 have hB:=hBig
 (repeat first | simp (disch:=try exact dis1) only [evD,Nat.reduceBEq,Nat.reduceAdd,Nat.reduceLeDiff,dT,dF,fldP,za,zf] | with_reducible intro _ | ((with_reducible apply And.intro);omega))
 by_cases q0:var=0<;>(repeat first | simp (disch:=try exact dis1) only [evD,Nat.reduceBEq,Nat.reduceAdd,Nat.reduceLeDiff,dT,dF,fldP,za,zf] | with_reducible intro _ | ((with_reducible apply And.intro);omega))
 case neg =>
  exact ⟨_, .bool _ _,congrArg AV.bool (by unfold zF;exact lb)⟩
 by_cases q1:width=0<;>(repeat first | simp (disch:=try exact dis1) only [evD,Nat.reduceBEq,Nat.reduceAdd,Nat.reduceLeDiff,dT,dF,fldP,za,zf] | with_reducible intro _ | ((with_reducible apply And.intro);omega))
 case neg =>
  exact ⟨_, .bool _ _,congrArg AV.bool (by unfold zF;exact lb)⟩
 by_cases q2:tgt=0<;>(repeat first | simp (disch:=try exact dis1) only [evD,Nat.reduceBEq,Nat.reduceAdd,Nat.reduceLeDiff,dT,dF,fldP,za,zf] | with_reducible intro _ | ((with_reducible apply And.intro);omega))
 case neg =>
  exact ⟨_, .bool _ _,congrArg AV.bool (by unfold zF;exact lb)⟩
 exact ⟨_, .bool _ _,congrArg AV.bool (by unfold zF;exact lb)⟩
theorem zq9 (op var width next els tgt:Int) (e:List Ex) (cs:List Int) (h:op=8):zz Tryz.prog zaw [.agg [.int .i64 op, .int .i64 var, .int .i64 width, .int .i64 next, .int .i64 els, .int .u32 tgt,encL 5 encX e,za cs]] (·=.bool (zF op var width next els tgt cs.length)):=by
 refine fn_x zaS rfl ?_
 unfold zaB
 have hB:=hBig
 (repeat first | simp (disch:=try exact dis1) only [evD,Nat.reduceBEq,Nat.reduceAdd,Nat.reduceLeDiff,dT,dF,fldP,za,zf] | with_reducible intro _ | ((with_reducible apply And.intro);omega))
 by_cases q0:var=0<;>(repeat first | simp (disch:=try exact dis1) only [evD,Nat.reduceBEq,Nat.reduceAdd,Nat.reduceLeDiff,dT,dF,fldP,za,zf] | with_reducible intro _ | ((with_reducible apply And.intro);omega))
 case neg =>
  exact ⟨_, .bool _ _,congrArg AV.bool (by unfold zF;exact lb)⟩
 by_cases q1:width=0<;>(repeat first | simp (disch:=try exact dis1) only [evD,Nat.reduceBEq,Nat.reduceAdd,Nat.reduceLeDiff,dT,dF,fldP,za,zf] | with_reducible intro _ | ((with_reducible apply And.intro);omega))
 case neg =>
  exact ⟨_, .bool _ _,congrArg AV.bool (by unfold zF;exact lb)⟩
 by_cases q2:next=0<;>(repeat first | simp (disch:=try exact dis1) only [evD,Nat.reduceBEq,Nat.reduceAdd,Nat.reduceLeDiff,dT,dF,fldP,za,zf] | with_reducible intro _ | ((with_reducible apply And.intro);omega))
 case neg =>
  exact ⟨_, .bool _ _,congrArg AV.bool (by unfold zF;exact lb)⟩
 by_cases q3:els=0<;>(repeat first | simp (disch:=try exact dis1) only [evD,Nat.reduceBEq,Nat.reduceAdd,Nat.reduceLeDiff,dT,dF,fldP,za,zf] | with_reducible intro _ | ((with_reducible apply And.intro);omega))
 case neg =>
  exact ⟨_, .bool _ _,congrArg AV.bool (by unfold zF;exact lb)⟩
 by_cases q4:tgt=0<;>(repeat first | simp (disch:=try exact dis1) only [evD,Nat.reduceBEq,Nat.reduceAdd,Nat.reduceLeDiff,dT,dF,fldP,za,zf] | with_reducible intro _ | ((with_reducible apply And.intro);omega))
 case neg =>
  exact ⟨_, .bool _ _,congrArg AV.bool (by unfold zF;exact lb)⟩
 exact ⟨_, .bool _ _,congrArg AV.bool (by unfold zF;exact lb)⟩
theorem zrA (op var width next els tgt:Int) (e:List Ex) (cs:List Int) (h:op=9):zz Tryz.prog zaw [.agg [.int .i64 op, .int .i64 var, .int .i64 width, .int .i64 next, .int .i64 els, .int .u32 tgt,encL 5 encX e,za cs]] (·=.bool (zF op var width next els tgt cs.length)):=by
 refine fn_x zaS rfl ?_
 unfold zaB
 have hB:=hBig
 (repeat first | simp (disch:=try exact dis1) only [evD,Nat.reduceBEq,Nat.reduceAdd,Nat.reduceLeDiff,dT,dF,fldP,za,zf] | with_reducible intro _ | ((with_reducible apply And.intro);omega))
 by_cases q0:var=0<;>(repeat first | simp (disch:=try exact dis1) only [evD,Nat.reduceBEq,Nat.reduceAdd,Nat.reduceLeDiff,dT,dF,fldP,za,zf] | with_reducible intro _ | ((with_reducible apply And.intro);omega))
 case neg =>
  exact ⟨_, .bool _ _,congrArg AV.bool (by unfold zF;exact lb)⟩
 by_cases q1:width=0<;>(repeat first | simp (disch:=try exact dis1) only [evD,Nat.reduceBEq,Nat.reduceAdd,Nat.reduceLeDiff,dT,dF,fldP,za,zf] | with_reducible intro _ | ((with_reducible apply And.intro);omega))
 case neg =>
  exact ⟨_, .bool _ _,congrArg AV.bool (by unfold zF;exact lb)⟩
 by_cases q2:next=0<;>(repeat first | simp (disch:=try exact dis1) only [evD,Nat.reduceBEq,Nat.reduceAdd,Nat.reduceLeDiff,dT,dF,fldP,za,zf] | with_reducible intro _ | ((with_reducible apply And.intro);omega))
 case neg =>
  exact ⟨_, .bool _ _,congrArg AV.bool (by unfold zF;exact lb)⟩
 by_cases q3:els=0<;>(repeat first | simp (disch:=try exact dis1) only [evD,Nat.reduceBEq,Nat.reduceAdd,Nat.reduceLeDiff,dT,dF,fldP,za,zf] | with_reducible intro _ | ((with_reducible apply And.intro);omega))
 case neg =>
  exact ⟨_, .bool _ _,congrArg AV.bool (by unfold zF;exact lb)⟩
 by_cases q4:tgt=0<;>(repeat first | simp (disch:=try exact dis1) only [evD,Nat.reduceBEq,Nat.reduceAdd,Nat.reduceLeDiff,dT,dF,fldP,za,zf] | with_reducible intro _ | ((with_reducible apply And.intro);omega))
 case neg =>
  exact ⟨_, .bool _ _,congrArg AV.bool (by unfold zF;exact lb)⟩
 exact ⟨_, .bool _ _,congrArg AV.bool (by unfold zF;exact lb)⟩
theorem zpB (op var width next els tgt:Int) (e:List Ex) (cs:List Int) (h:op=10):zz Tryz.prog zaw [.agg [.int .i64 op, .int .i64 var, .int .i64 width, .int .i64 next, .int .i64 els, .int .u32 tgt,encL 5 encX e,za cs]] (·=.bool (zF op var width next els tgt cs.length)):=by
 refine fn_x zaS rfl ?_
 unfold zaB
 have hB:=hBig
 (repeat first | simp (disch:=try exact dis1) only [evD,Nat.reduceBEq,Nat.reduceAdd,Nat.reduceLeDiff,dT,dF,fldP,za,zf] | with_reducible intro _ | ((with_reducible apply And.intro);omega))
 by_cases q0:var=0<;>(repeat first | simp (disch:=try exact dis1) only [evD,Nat.reduceBEq,Nat.reduceAdd,Nat.reduceLeDiff,dT,dF,fldP,za,zf] | with_reducible intro _ | ((with_reducible apply And.intro);omega))
 case neg =>
  exact ⟨_, .bool _ _,congrArg AV.bool (by unfold zF;exact lb)⟩
 by_cases q1:width=0<;>(repeat first | simp (disch:=try exact dis1) only [evD,Nat.reduceBEq,Nat.reduceAdd,Nat.reduceLeDiff,dT,dF,fldP,za,zf] | with_reducible intro _ | ((with_reducible apply And.intro);omega))
 case neg =>
  exact ⟨_, .bool _ _,congrArg AV.bool (by unfold zF;exact lb)⟩
 by_cases q2:next=0<;>(repeat first | simp (disch:=try exact dis1) only [evD,Nat.reduceBEq,Nat.reduceAdd,Nat.reduceLeDiff,dT,dF,fldP,za,zf] | with_reducible intro _ | ((with_reducible apply And.intro);omega))
 case neg =>
  exact ⟨_, .bool _ _,congrArg AV.bool (by unfold zF;exact lb)⟩
 by_cases q3:els=0<;>(repeat first | simp (disch:=try exact dis1) only [evD,Nat.reduceBEq,Nat.reduceAdd,Nat.reduceLeDiff,dT,dF,fldP,za,zf] | with_reducible intro _ | ((with_reducible apply And.intro);omega))
 case neg =>
  exact ⟨_, .bool _ _,congrArg AV.bool (by unfold zF;exact lb)⟩
 by_cases q4:tgt=0<;>(repeat first | simp (disch:=try exact dis1) only [evD,Nat.reduceBEq,Nat.reduceAdd,Nat.reduceLeDiff,dT,dF,fldP,za,zf] | with_reducible intro _ | ((with_reducible apply And.intro);omega))
 case neg =>
  exact ⟨_, .bool _ _,congrArg AV.bool (by unfold zF;exact lb)⟩
 exact ⟨_, .bool _ _,congrArg AV.bool (by unfold zF;exact lb)⟩
theorem zpC (op var width next els tgt:Int) (e:List Ex) (cs:List Int) (h1:1≤op) (h2:op≤10):zz Tryz.prog zaw [.agg [.int .i64 op, .int .i64 var, .int .i64 width, .int .i64 next, .int .i64 els, .int .u32 tgt,encL 5 encX e,za cs]] (·=.bool (zF op var width next els tgt cs.length)):=by
 by_cases h10:op=1
 · exact zqG op var width next els tgt e cs h10
 by_cases h20:op=2
 · exact zra op var width next els tgt e cs h20
 by_cases h30:op=3
 · exact zrZ op var width next els tgt e cs h30
 by_cases h40:op=4
 · exact zqV op var width next els tgt e cs h40
 by_cases h50:op=5
 · exact zqM op var width next els tgt e cs h50
 by_cases h60:op=6
 · exact zrN op var width next els tgt e cs h60
 by_cases h70:op=7
 · exact zqA op var width next els tgt e cs h70
 by_cases h80:op=8
 · exact zq9 op var width next els tgt e cs h80
 by_cases h90:op=9
 · exact zrA op var width next els tgt e cs h90
 by_cases h100:op=10
 · exact zpB op var width next els tgt e cs h100
 omega
theorem zsU (op var width next els tgt:Int) (e:List Ex) (cs:List Int) (h:op=1):zz Tryz.prog zaG [.agg [.int .i64 op, .int .i64 var, .int .i64 width, .int .i64 next, .int .i64 els, .int .u32 tgt,encL 5 encX e,za cs]] (·=.bool (zy op var width next els tgt cs.length)):=by
 refine fn_x za9 rfl ?_
 unfold zaV
 have hB:=hBig
 (repeat first | simp (disch:=try exact dis1) only [evD,Nat.reduceBEq,Nat.reduceAdd,Nat.reduceLeDiff,dT,dF,fldP,za,zd] | with_reducible intro _ | ((with_reducible apply And.intro);omega))
 refine zi (zk (zgk var) rfl) ?_
 unfold zqg
 by_cases hv:0≤var∧var < 65536<;>(repeat first | simp (disch:=try exact dis1) only [evD,Nat.reduceBEq,Nat.reduceAdd,Nat.reduceLeDiff,dT,dF,fldP,za,zd] | with_reducible intro _ | ((with_reducible apply And.intro);omega))
 case neg =>
  exact ⟨_, .bool _ _,congrArg AV.bool (by unfold zy;exact lb)⟩
 by_cases q0:width=0<;>(repeat first | simp (disch:=try exact dis1) only [evD,Nat.reduceBEq,Nat.reduceAdd,Nat.reduceLeDiff,dT,dF,fldP,za,zd] | with_reducible intro _ | ((with_reducible apply And.intro);omega))
 case neg =>
  exact ⟨_, .bool _ _,congrArg AV.bool (by unfold zy;exact lb)⟩
 by_cases q1:tgt=0<;>(repeat first | simp (disch:=try exact dis1) only [evD,Nat.reduceBEq,Nat.reduceAdd,Nat.reduceLeDiff,dT,dF,fldP,za,zd] | with_reducible intro _ | ((with_reducible apply And.intro);omega))
 case neg =>
  exact ⟨_, .bool _ _,congrArg AV.bool (by unfold zy;exact lb)⟩
 by_cases q2:next=0<;>(repeat first | simp (disch:=try exact dis1) only [evD,Nat.reduceBEq,Nat.reduceAdd,Nat.reduceLeDiff,dT,dF,fldP,za,zd] | with_reducible intro _ | ((with_reducible apply And.intro);omega))
 case neg =>
  exact ⟨_, .bool _ _,congrArg AV.bool (by unfold zy;exact lb)⟩
 by_cases q3:els=0<;>(repeat first | simp (disch:=try exact dis1) only [evD,Nat.reduceBEq,Nat.reduceAdd,Nat.reduceLeDiff,dT,dF,fldP,za,zd] | with_reducible intro _ | ((with_reducible apply And.intro);omega))
 case neg =>
  exact ⟨_, .bool _ _,congrArg AV.bool (by unfold zy;exact lb)⟩
 exact ⟨_, .bool _ _,congrArg AV.bool (by unfold zy;exact lb)⟩
theorem ztd (op var width next els tgt:Int) (e:List Ex) (cs:List Int) (h:op=2):zz Tryz.prog zaG [.agg [.int .i64 op, .int .i64 var, .int .i64 width, .int .i64 next, .int .i64 els, .int .u32 tgt,encL 5 encX e,za cs]] (·=.bool (zy op var width next els tgt cs.length)):=by
 refine fn_x za9 rfl ?_
 unfold zaV
 have hB:=hBig
 (repeat first | simp (disch:=try exact dis1) only [evD,Nat.reduceBEq,Nat.reduceAdd,Nat.reduceLeDiff,dT,dF,fldP,za,zd] | with_reducible intro _ | ((with_reducible apply And.intro);omega))
 refine zi (zk (zlW width) rfl) ?_
 unfold zpO
 by_cases hv:width=1∨width=2∨width=4<;>(repeat first | simp (disch:=try exact dis1) only [evD,Nat.reduceBEq,Nat.reduceAdd,Nat.reduceLeDiff,dT,dF,fldP,za,zd] | with_reducible intro _ | ((with_reducible apply And.intro);omega))
 case neg =>
  exact ⟨_, .bool _ _,congrArg AV.bool (by unfold zy;exact lb)⟩
 by_cases q0:var=0<;>(repeat first | simp (disch:=try exact dis1) only [evD,Nat.reduceBEq,Nat.reduceAdd,Nat.reduceLeDiff,dT,dF,fldP,za,zd] | with_reducible intro _ | ((with_reducible apply And.intro);omega))
 case neg =>
  exact ⟨_, .bool _ _,congrArg AV.bool (by unfold zy;exact lb)⟩
 by_cases q1:tgt=0<;>(repeat first | simp (disch:=try exact dis1) only [evD,Nat.reduceBEq,Nat.reduceAdd,Nat.reduceLeDiff,dT,dF,fldP,za,zd] | with_reducible intro _ | ((with_reducible apply And.intro);omega))
 case neg =>
  exact ⟨_, .bool _ _,congrArg AV.bool (by unfold zy;exact lb)⟩
 by_cases q2:next=0<;>(repeat first | simp (disch:=try exact dis1) only [evD,Nat.reduceBEq,Nat.reduceAdd,Nat.reduceLeDiff,dT,dF,fldP,za,zd] | with_reducible intro _ | ((with_reducible apply And.intro);omega))
 case neg =>
  exact ⟨_, .bool _ _,congrArg AV.bool (by unfold zy;exact lb)⟩
 by_cases q3:els=0<;>(repeat first | simp (disch:=try exact dis1) only [evD,Nat.reduceBEq,Nat.reduceAdd,Nat.reduceLeDiff,dT,dF,fldP,za,zd] | with_reducible intro _ | ((with_reducible apply And.intro);omega))
 case neg =>
  exact ⟨_, .bool _ _,congrArg AV.bool (by unfold zy;exact lb)⟩
 exact ⟨_, .bool _ _,congrArg AV.bool (by unfold zy;exact lb)⟩
theorem zsF (op var width next els tgt:Int) (e:List Ex) (cs:List Int) (h:op=3):zz Tryz.prog zaG [.agg [.int .i64 op, .int .i64 var, .int .i64 width, .int .i64 next, .int .i64 els, .int .u32 tgt,encL 5 encX e,za cs]] (·=.bool (zy op var width next els tgt cs.length)):=by
 refine fn_x za9 rfl ?_
 unfold zaV
 have hB:=hBig
 (repeat first | simp (disch:=try exact dis1) only [evD,Nat.reduceBEq,Nat.reduceAdd,Nat.reduceLeDiff,dT,dF,fldP,za,zd] | with_reducible intro _ | ((with_reducible apply And.intro);omega))
 refine zi (zk (zgk var) rfl) ?_
 unfold zqg
 by_cases hv:0≤var∧var < 65536<;>(repeat first | simp (disch:=try exact dis1) only [evD,Nat.reduceBEq,Nat.reduceAdd,Nat.reduceLeDiff,dT,dF,fldP,za,zd] | with_reducible intro _ | ((with_reducible apply And.intro);omega))
 case neg =>
  exact ⟨_, .bool _ _,congrArg AV.bool (by unfold zy;exact lb)⟩
 by_cases q0:width=0<;>(repeat first | simp (disch:=try exact dis1) only [evD,Nat.reduceBEq,Nat.reduceAdd,Nat.reduceLeDiff,dT,dF,fldP,za,zd] | with_reducible intro _ | ((with_reducible apply And.intro);omega))
 case neg =>
  exact ⟨_, .bool _ _,congrArg AV.bool (by unfold zy;exact lb)⟩
 by_cases q1:tgt=0<;>(repeat first | simp (disch:=try exact dis1) only [evD,Nat.reduceBEq,Nat.reduceAdd,Nat.reduceLeDiff,dT,dF,fldP,za,zd] | with_reducible intro _ | ((with_reducible apply And.intro);omega))
 case neg =>
  exact ⟨_, .bool _ _,congrArg AV.bool (by unfold zy;exact lb)⟩
 by_cases q2:next=0<;>(repeat first | simp (disch:=try exact dis1) only [evD,Nat.reduceBEq,Nat.reduceAdd,Nat.reduceLeDiff,dT,dF,fldP,za,zd] | with_reducible intro _ | ((with_reducible apply And.intro);omega))
 case neg =>
  exact ⟨_, .bool _ _,congrArg AV.bool (by unfold zy;exact lb)⟩
 by_cases q3:els=0<;>(repeat first | simp (disch:=try exact dis1) only [evD,Nat.reduceBEq,Nat.reduceAdd,Nat.reduceLeDiff,dT,dF,fldP,za,zd] | with_reducible intro _ | ((with_reducible apply And.intro);omega))
 case neg =>
  exact ⟨_, .bool _ _,congrArg AV.bool (by unfold zy;exact lb)⟩
 exact ⟨_, .bool _ _,congrArg AV.bool (by unfold zy;exact lb)⟩
theorem ztE (op var width next els tgt:Int) (e:List Ex) (cs:List Int) (h:op=4):zz Tryz.prog zaG [.agg [.int .i64 op, .int .i64 var, .int .i64 width, .int .i64 next, .int .i64 els, .int .u32 tgt,encL 5 encX e,za cs]] (·=.bool (zy op var width next els tgt cs.length)):=by
 refine fn_x za9 rfl ?_
 unfold zaV
 have hB:=hBig
 (repeat first | simp (disch:=try exact dis1) only [evD,Nat.reduceBEq,Nat.reduceAdd,Nat.reduceLeDiff,dT,dF,fldP,za,zd] | with_reducible intro _ | ((with_reducible apply And.intro);omega))
 by_cases q0:var=0<;>(repeat first | simp (disch:=try exact dis1) only [evD,Nat.reduceBEq,Nat.reduceAdd,Nat.reduceLeDiff,dT,dF,fldP,za,zd] | with_reducible intro _ | ((with_reducible apply And.intro);omega))
 case neg =>
  exact ⟨_, .bool _ _,congrArg AV.bool (by unfold zy;exact lb)⟩
 by_cases q1:width=0<;>(repeat first | simp (disch:=try exact dis1) only [evD,Nat.reduceBEq,Nat.reduceAdd,Nat.reduceLeDiff,dT,dF,fldP,za,zd] | with_reducible intro _ | ((with_reducible apply And.intro);omega))
 case neg =>
  exact ⟨_, .bool _ _,congrArg AV.bool (by unfold zy;exact lb)⟩
 by_cases q2:tgt=0<;>(repeat first | simp (disch:=try exact dis1) only [evD,Nat.reduceBEq,Nat.reduceAdd,Nat.reduceLeDiff,dT,dF,fldP,za,zd] | with_reducible intro _ | ((with_reducible apply And.intro);omega))
 case neg =>
  exact ⟨_, .bool _ _,congrArg AV.bool (by unfold zy;exact lb)⟩
 by_cases q3:next=0<;>(repeat first | simp (disch:=try exact dis1) only [evD,Nat.reduceBEq,Nat.reduceAdd,Nat.reduceLeDiff,dT,dF,fldP,za,zd] | with_reducible intro _ | ((with_reducible apply And.intro);omega))
 case neg =>
  exact ⟨_, .bool _ _,congrArg AV.bool (by unfold zy;exact lb)⟩
 by_cases q4:els=0<;>(repeat first | simp (disch:=try exact dis1) only [evD,Nat.reduceBEq,Nat.reduceAdd,Nat.reduceLeDiff,dT,dF,fldP,za,zd] | with_reducible intro _ | ((with_reducible apply And.intro);omega))
 case neg =>
  exact ⟨_, .bool _ _,congrArg AV.bool (by unfold zy;exact lb)⟩
 exact ⟨_, .bool _ _,congrArg AV.bool (by unfold zy;exact lb)⟩
theorem zst (op var width next els tgt:Int) (e:List Ex) (cs:List Int) (h:op=5):zz Tryz.prog zaG [.agg [.int .i64 op, .int .i64 var, .int .i64 width, .int .i64 next, .int .i64 els, .int .u32 tgt,encL 5 encX e,za cs]] (·=.bool (zy op var width next els tgt cs.length)):=by
 refine fn_x za9 rfl ?_
 unfold zaV
 have hB:=hBig
 (repeat first | simp (disch:=try exact dis1) only [evD,Nat.reduceBEq,Nat.reduceAdd,Nat.reduceLeDiff,dT,dF,fldP,za,zd] | with_reducible intro _ | ((with_reducible apply And.intro);omega))
 by_cases q0:var=0<;>(repeat first | simp (disch:=try exact dis1) only [evD,Nat.reduceBEq,Nat.reduceAdd,Nat.reduceLeDiff,dT,dF,fldP,za,zd] | with_reducible intro _ | ((with_reducible apply And.intro);omega))
 case neg =>
  exact ⟨_, .bool _ _,congrArg AV.bool (by unfold zy;exact lb)⟩
 by_cases q1:width=0<;>(repeat first | simp (disch:=try exact dis1) only [evD,Nat.reduceBEq,Nat.reduceAdd,Nat.reduceLeDiff,dT,dF,fldP,za,zd] | with_reducible intro _ | ((with_reducible apply And.intro);omega))
 case neg =>
  exact ⟨_, .bool _ _,congrArg AV.bool (by unfold zy;exact lb)⟩
 by_cases q2:next=0<;>(repeat first | simp (disch:=try exact dis1) only [evD,Nat.reduceBEq,Nat.reduceAdd,Nat.reduceLeDiff,dT,dF,fldP,za,zd] | with_reducible intro _ | ((with_reducible apply And.intro);omega))
 case neg =>
  exact ⟨_, .bool _ _,congrArg AV.bool (by unfold zy;exact lb)⟩
 by_cases q3:els=0<;>(repeat first | simp (disch:=try exact dis1) only [evD,Nat.reduceBEq,Nat.reduceAdd,Nat.reduceLeDiff,dT,dF,fldP,za,zd] | with_reducible intro _ | ((with_reducible apply And.intro);omega))
 case neg =>
  exact ⟨_, .bool _ _,congrArg AV.bool (by unfold zy;exact lb)⟩
 exact ⟨_, .bool _ _,congrArg AV.bool (by unfold zy;exact lb)⟩
theorem ztT (op var width next els tgt:Int) (e:List Ex) (cs:List Int) (h:op=6):zz Tryz.prog zaG [.agg [.int .i64 op, .int .i64 var, .int .i64 width, .int .i64 next, .int .i64 els, .int .u32 tgt,encL 5 encX e,za cs]] (·=.bool (zy op var width next els tgt cs.length)):=by
 refine fn_x za9 rfl ?_
 unfold zaV
 have hB:=hBig
 (repeat first | simp (disch:=try exact dis1) only [evD,Nat.reduceBEq,Nat.reduceAdd,Nat.reduceLeDiff,dT,dF,fldP,za,zd] | with_reducible intro _ | ((with_reducible apply And.intro);omega))
 by_cases q0:var=0<;>(repeat first | simp (disch:=try exact dis1) only [evD,Nat.reduceBEq,Nat.reduceAdd,Nat.reduceLeDiff,dT,dF,fldP,za,zd] | with_reducible intro _ | ((with_reducible apply And.intro);omega))
 case neg =>
  exact ⟨_, .bool _ _,congrArg AV.bool (by unfold zy;exact lb)⟩
 by_cases q1:width=0<;>(repeat first | simp (disch:=try exact dis1) only [evD,Nat.reduceBEq,Nat.reduceAdd,Nat.reduceLeDiff,dT,dF,fldP,za,zd] | with_reducible intro _ | ((with_reducible apply And.intro);omega))
 case neg =>
  exact ⟨_, .bool _ _,congrArg AV.bool (by unfold zy;exact lb)⟩
 by_cases q2:tgt=0<;>(repeat first | simp (disch:=try exact dis1) only [evD,Nat.reduceBEq,Nat.reduceAdd,Nat.reduceLeDiff,dT,dF,fldP,za,zd] | with_reducible intro _ | ((with_reducible apply And.intro);omega))
 case neg =>
  exact ⟨_, .bool _ _,congrArg AV.bool (by unfold zy;exact lb)⟩
 by_cases q3:els=0<;>(repeat first | simp (disch:=try exact dis1) only [evD,Nat.reduceBEq,Nat.reduceAdd,Nat.reduceLeDiff,dT,dF,fldP,za,zd] | with_reducible intro _ | ((with_reducible apply And.intro);omega))
 case neg =>
  exact ⟨_, .bool _ _,congrArg AV.bool (by unfold zy;exact lb)⟩
 exact ⟨_, .bool _ _,congrArg AV.bool (by unfold zy;exact lb)⟩
theorem zsN (op var width next els tgt:Int) (e:List Ex) (cs:List Int) (h:op=7):zz Tryz.prog zaG [.agg [.int .i64 op, .int .i64 var, .int .i64 width, .int .i64 next, .int .i64 els, .int .u32 tgt,encL 5 encX e,za cs]] (·=.bool (zy op var width next els tgt cs.length)):=by
 refine fn_x za9 rfl ?_
 unfold zaV
 have hB:=hBig
 by_cases q0:var=0
 case neg =>
  ((repeat first | simp (disch:=try exact dis1) only [evD,Nat.reduceBEq,Nat.reduceAdd,Nat.reduceLeDiff,dT,dF,fldP,za,zd] | with_reducible intro _ | ((with_reducible apply And.intro);omega));(repeat' with_reducible apply And.intro)<;>(repeat first | simp (disch:=try exact dis1) only [evD,Nat.reduceBEq,Nat.reduceAdd,Nat.reduceLeDiff,dT,dF,fldP,za,zd] | with_reducible intro _ | ((with_reducible apply And.intro);omega));all_goals (exact ⟨_, .bool _ _,congrArg AV.bool (by unfold zy;exact lb)⟩))
 by_cases q1:width=0
 case neg =>
  ((repeat first | simp (disch:=try exact dis1) only [evD,Nat.reduceBEq,Nat.reduceAdd,Nat.reduceLeDiff,dT,dF,fldP,za,zd] | with_reducible intro _ | ((with_reducible apply And.intro);omega));(repeat' with_reducible apply And.intro)<;>(repeat first | simp (disch:=try exact dis1) only [evD,Nat.reduceBEq,Nat.reduceAdd,Nat.reduceLeDiff,dT,dF,fldP,za,zd] | with_reducible intro _ | ((with_reducible apply And.intro);omega));all_goals (exact ⟨_, .bool _ _,congrArg AV.bool (by unfold zy;exact lb)⟩))
 by_cases q2:tgt=0
 case neg =>
  ((repeat first | simp (disch:=try exact dis1) only [evD,Nat.reduceBEq,Nat.reduceAdd,Nat.reduceLeDiff,dT,dF,fldP,za,zd] | with_reducible intro _ | ((with_reducible apply And.intro);omega));(repeat' with_reducible apply And.intro)<;>(repeat first | simp (disch:=try exact dis1) only [evD,Nat.reduceBEq,Nat.reduceAdd,Nat.reduceLeDiff,dT,dF,fldP,za,zd] | with_reducible intro _ | ((with_reducible apply And.intro);omega));all_goals (exact ⟨_, .bool _ _,congrArg AV.bool (by unfold zy;exact lb)⟩))
 by_cases q3:cs.length=0
 case neg =>
  ((repeat first | simp (disch:=try exact dis1) only [evD,Nat.reduceBEq,Nat.reduceAdd,Nat.reduceLeDiff,dT,dF,fldP,za,zd] | with_reducible intro _ | ((with_reducible apply And.intro);omega));(repeat' with_reducible apply And.intro)<;>(repeat first | simp (disch:=try exact dis1) only [evD,Nat.reduceBEq,Nat.reduceAdd,Nat.reduceLeDiff,dT,dF,fldP,za,zd] | with_reducible intro _ | ((with_reducible apply And.intro);omega));all_goals (exact ⟨_, .bool _ _,congrArg AV.bool (by unfold zy;exact lb)⟩))
 ((repeat first | simp (disch:=try exact dis1) only [evD,Nat.reduceBEq,Nat.reduceAdd,Nat.reduceLeDiff,dT,dF,fldP,za,zd] | with_reducible intro _ | ((with_reducible apply And.intro);omega));(repeat' with_reducible apply And.intro)<;>(repeat first | simp (disch:=try exact dis1) only [evD,Nat.reduceBEq,Nat.reduceAdd,Nat.reduceLeDiff,dT,dF,fldP,za,zd] | with_reducible intro _ | ((with_reducible apply And.intro);omega));all_goals (exact ⟨_, .bool _ _,congrArg AV.bool (by unfold zy;exact lb)⟩))
theorem ztv (op var width next els tgt:Int) (e:List Ex) (cs:List Int) (h:op=8):zz Tryz.prog zaG [.agg [.int .i64 op, .int .i64 var, .int .i64 width, .int .i64 next, .int .i64 els, .int .u32 tgt,encL 5 encX e,za cs]] (·=.bool (zy op var width next els tgt cs.length)):=by
 refine fn_x za9 rfl ?_
 unfold zaV
 have hB:=hBig
 (repeat first | simp (disch:=try exact dis1) only [evD,Nat.reduceBEq,Nat.reduceAdd,Nat.reduceLeDiff,dT,dF,fldP,za,zd] | with_reducible intro _ | ((with_reducible apply And.intro);omega))
 by_cases g1:1≤cs.length<;>(repeat first | simp (disch:=try exact dis1) only [evD,Nat.reduceBEq,Nat.reduceAdd,Nat.reduceLeDiff,dT,dF,fldP,za,zd] | with_reducible intro _ | ((with_reducible apply And.intro);omega))
 case neg =>
  exact ⟨_, .bool _ _,congrArg AV.bool (by unfold zy;exact lb)⟩
 by_cases g2:cs.length≤64<;>(repeat first | simp (disch:=try exact dis1) only [evD,Nat.reduceBEq,Nat.reduceAdd,Nat.reduceLeDiff,dT,dF,fldP,za,zd] | with_reducible intro _ | ((with_reducible apply And.intro);omega))
 case neg =>
  exact ⟨_, .bool _ _,congrArg AV.bool (by unfold zy;exact lb)⟩
 by_cases q0:var=0<;>(repeat first | simp (disch:=try exact dis1) only [evD,Nat.reduceBEq,Nat.reduceAdd,Nat.reduceLeDiff,dT,dF,fldP,za,zd] | with_reducible intro _ | ((with_reducible apply And.intro);omega))
 case neg =>
  exact ⟨_, .bool _ _,congrArg AV.bool (by unfold zy;exact lb)⟩
 by_cases q1:width=0<;>(repeat first | simp (disch:=try exact dis1) only [evD,Nat.reduceBEq,Nat.reduceAdd,Nat.reduceLeDiff,dT,dF,fldP,za,zd] | with_reducible intro _ | ((with_reducible apply And.intro);omega))
 case neg =>
  exact ⟨_, .bool _ _,congrArg AV.bool (by unfold zy;exact lb)⟩
 by_cases q2:tgt=0<;>(repeat first | simp (disch:=try exact dis1) only [evD,Nat.reduceBEq,Nat.reduceAdd,Nat.reduceLeDiff,dT,dF,fldP,za,zd] | with_reducible intro _ | ((with_reducible apply And.intro);omega))
 case neg =>
  exact ⟨_, .bool _ _,congrArg AV.bool (by unfold zy;exact lb)⟩
 by_cases q3:next=0<;>(repeat first | simp (disch:=try exact dis1) only [evD,Nat.reduceBEq,Nat.reduceAdd,Nat.reduceLeDiff,dT,dF,fldP,za,zd] | with_reducible intro _ | ((with_reducible apply And.intro);omega))
 case neg =>
  exact ⟨_, .bool _ _,congrArg AV.bool (by unfold zy;exact lb)⟩
 by_cases q4:els=0<;>(repeat first | simp (disch:=try exact dis1) only [evD,Nat.reduceBEq,Nat.reduceAdd,Nat.reduceLeDiff,dT,dF,fldP,za,zd] | with_reducible intro _ | ((with_reducible apply And.intro);omega))
 case neg =>
  exact ⟨_, .bool _ _,congrArg AV.bool (by unfold zy;exact lb)⟩
 exact ⟨_, .bool _ _,congrArg AV.bool (by unfold zy;exact lb)⟩
theorem ztz (op var width next els tgt:Int) (e:List Ex) (cs:List Int) (h:op=9):zz Tryz.prog zaG [.agg [.int .i64 op, .int .i64 var, .int .i64 width, .int .i64 next, .int .i64 els, .int .u32 tgt,encL 5 encX e,za cs]] (·=.bool (zy op var width next els tgt cs.length)):=by
 refine fn_x za9 rfl ?_
 unfold zaV
 have hB:=hBig
 (repeat first | simp (disch:=try exact dis1) only [evD,Nat.reduceBEq,Nat.reduceAdd,Nat.reduceLeDiff,dT,dF,fldP,za,zd] | with_reducible intro _ | ((with_reducible apply And.intro);omega))
 by_cases q0:var=0<;>(repeat first | simp (disch:=try exact dis1) only [evD,Nat.reduceBEq,Nat.reduceAdd,Nat.reduceLeDiff,dT,dF,fldP,za,zd] | with_reducible intro _ | ((with_reducible apply And.intro);omega))
 case neg =>
  exact ⟨_, .bool _ _,congrArg AV.bool (by unfold zy;exact lb)⟩
 by_cases q1:width=0<;>(repeat first | simp (disch:=try exact dis1) only [evD,Nat.reduceBEq,Nat.reduceAdd,Nat.reduceLeDiff,dT,dF,fldP,za,zd] | with_reducible intro _ | ((with_reducible apply And.intro);omega))
 case neg =>
  exact ⟨_, .bool _ _,congrArg AV.bool (by unfold zy;exact lb)⟩
 by_cases q2:tgt=0<;>(repeat first | simp (disch:=try exact dis1) only [evD,Nat.reduceBEq,Nat.reduceAdd,Nat.reduceLeDiff,dT,dF,fldP,za,zd] | with_reducible intro _ | ((with_reducible apply And.intro);omega))
 case neg =>
  exact ⟨_, .bool _ _,congrArg AV.bool (by unfold zy;exact lb)⟩
 by_cases q3:next=0<;>(repeat first | simp (disch:=try exact dis1) only [evD,Nat.reduceBEq,Nat.reduceAdd,Nat.reduceLeDiff,dT,dF,fldP,za,zd] | with_reducible intro _ | ((with_reducible apply And.intro);omega))
 case neg =>
  exact ⟨_, .bool _ _,congrArg AV.bool (by unfold zy;exact lb)⟩
 by_cases q4:els=0<;>(repeat first | simp (disch:=try exact dis1) only [evD,Nat.reduceBEq,Nat.reduceAdd,Nat.reduceLeDiff,dT,dF,fldP,za,zd] | with_reducible intro _ | ((with_reducible apply And.intro);omega))
 case neg =>
  exact ⟨_, .bool _ _,congrArg AV.bool (by unfold zy;exact lb)⟩
 exact ⟨_, .bool _ _,congrArg AV.bool (by unfold zy;exact lb)⟩
theorem zrH (op var width next els tgt:Int) (e:List Ex) (cs:List Int) (h:op=10):zz Tryz.prog zaG [.agg [.int .i64 op, .int .i64 var, .int .i64 width, .int .i64 next, .int .i64 els, .int .u32 tgt,encL 5 encX e,za cs]] (·=.bool (zy op var width next els tgt cs.length)):=by
 refine fn_x za9 rfl ?_
 unfold zaV
 have hB:=hBig
 (repeat first | simp (disch:=try exact dis1) only [evD,Nat.reduceBEq,Nat.reduceAdd,Nat.reduceLeDiff,dT,dF,fldP,za,zd] | with_reducible intro _ | ((with_reducible apply And.intro);omega))
 by_cases q0:var=0<;>(repeat first | simp (disch:=try exact dis1) only [evD,Nat.reduceBEq,Nat.reduceAdd,Nat.reduceLeDiff,dT,dF,fldP,za,zd] | with_reducible intro _ | ((with_reducible apply And.intro);omega))
 case neg =>
  exact ⟨_, .bool _ _,congrArg AV.bool (by unfold zy;exact lb)⟩
 by_cases q1:width=0<;>(repeat first | simp (disch:=try exact dis1) only [evD,Nat.reduceBEq,Nat.reduceAdd,Nat.reduceLeDiff,dT,dF,fldP,za,zd] | with_reducible intro _ | ((with_reducible apply And.intro);omega))
 case neg =>
  exact ⟨_, .bool _ _,congrArg AV.bool (by unfold zy;exact lb)⟩
 by_cases q2:tgt=0<;>(repeat first | simp (disch:=try exact dis1) only [evD,Nat.reduceBEq,Nat.reduceAdd,Nat.reduceLeDiff,dT,dF,fldP,za,zd] | with_reducible intro _ | ((with_reducible apply And.intro);omega))
 case neg =>
  exact ⟨_, .bool _ _,congrArg AV.bool (by unfold zy;exact lb)⟩
 by_cases q3:next=0<;>(repeat first | simp (disch:=try exact dis1) only [evD,Nat.reduceBEq,Nat.reduceAdd,Nat.reduceLeDiff,dT,dF,fldP,za,zd] | with_reducible intro _ | ((with_reducible apply And.intro);omega))
 case neg =>
  exact ⟨_, .bool _ _,congrArg AV.bool (by unfold zy;exact lb)⟩
 by_cases q4:els=0<;>(repeat first | simp (disch:=try exact dis1) only [evD,Nat.reduceBEq,Nat.reduceAdd,Nat.reduceLeDiff,dT,dF,fldP,za,zd] | with_reducible intro _ | ((with_reducible apply And.intro);omega))
 case neg =>
  exact ⟨_, .bool _ _,congrArg AV.bool (by unfold zy;exact lb)⟩
 exact ⟨_, .bool _ _,congrArg AV.bool (by unfold zy;exact lb)⟩
theorem zrL (op var width next els tgt:Int) (e:List Ex) (cs:List Int) (h1:1≤op) (h2:op≤10):zz Tryz.prog zaG [.agg [.int .i64 op, .int .i64 var, .int .i64 width, .int .i64 next, .int .i64 els, .int .u32 tgt,encL 5 encX e,za cs]] (·=.bool (zy op var width next els tgt cs.length)):=by
 by_cases h10:op=1
 · exact zsU op var width next els tgt e cs h10
 by_cases h20:op=2
 · exact ztd op var width next els tgt e cs h20
 by_cases h30:op=3
 · exact zsF op var width next els tgt e cs h30
 by_cases h40:op=4
 · exact ztE op var width next els tgt e cs h40
 by_cases h50:op=5
 · exact zst op var width next els tgt e cs h50
 by_cases h60:op=6
 · exact ztT op var width next els tgt e cs h60
 by_cases h70:op=7
 · exact zsN op var width next els tgt e cs h70
 by_cases h80:op=8
 · exact ztv op var width next els tgt e cs h80
 by_cases h90:op=9
 · exact ztz op var width next els tgt e cs h90
 by_cases h100:op=10
 · exact zrH op var width next els tgt e cs h100
 omega
def zhH:List Ex→Int
 | []=>0
 | x::l=>if zjt x≠0 then zjt x else zhH l
theorem znG {l:List Ex} {i:Nat} (h:i < l.length):zhH (l.drop i)=if zjt l[i]≠0 then zjt l[i] else zhH (l.drop (i+1)):=by
 rw [List.drop_eq_getElem_cons h,zhH]
def zpe (op var width next els tgt:Int) (e:List Ex) (cs:List Int):Int :=
 if (op < 1∨10 < op)∨zU op≠e.length then 2 else if zhH e≠0 then zhH e else if zy op var width next els tgt cs.length=true then 0 else 2
theorem zmt (op var width next els tgt:Int) (e:List Ex) (cs:List Int):zz Tryz.prog zdc [.agg [.int .i64 op, .int .i64 var, .int .i64 width, .int .i64 next, .int .i64 els, .int .u32 tgt,encL 5 encX e,za cs]] (·=.int .i64 (zpe op var width next els tgt e cs)):=by
 refine fn_x zmg rfl ?_
 unfold zhP zpe
 have hB:=hBig
 by_cases h1:1≤op
 case neg =>
  rw [if_pos (by omega)]
  (repeat first | simp (disch:=try exact dis1) only [evD,Nat.reduceBEq,Nat.reduceAdd,Nat.reduceLeDiff,dT,dF,fldP,za,zA] | with_reducible intro _ | ((with_reducible apply And.intro);omega))
  exact ⟨_, .int _ _ _,rfl⟩
 by_cases h2:op≤10
 case neg =>
  rw [if_pos (by omega)]
  (repeat first | simp (disch:=try exact dis1) only [evD,Nat.reduceBEq,Nat.reduceAdd,Nat.reduceLeDiff,dT,dF,fldP,za,zA] | with_reducible intro _ | ((with_reducible apply And.intro);omega))
  exact ⟨_, .int _ _ _,rfl⟩
 (repeat first | simp (disch:=try exact dis1) only [evD,Nat.reduceBEq,Nat.reduceAdd,Nat.reduceLeDiff,dF,fldP,za] | with_reducible intro _ | ((with_reducible apply And.intro);omega))
 refine zbl (zk (zrl op h1 h2) rfl) ?_
 generalize zU op=n
 by_cases h3:n=e.length
 case neg =>
  rw [if_pos (by omega)]
  (repeat first | simp (disch:=try exact dis1) only [evD,Nat.reduceBEq,Nat.reduceAdd,Nat.reduceLeDiff,dT,dF,fldP,za,zA] | with_reducible intro _ | ((with_reducible apply And.intro);omega))
  exact ⟨_, .int _ _ _,rfl⟩
 rw [if_neg (by omega)]
 (repeat first | simp (disch:=try exact dis1) only [evD,Nat.reduceBEq,Nat.reduceAdd,Nat.reduceLeDiff,dT,dF,fldP,za] | with_reducible intro _ | ((with_reducible apply And.intro);omega))
 refine zg (fun i:Nat=>([(1,encP 8 [.int .i64 op, .int .i64 var, .int .i64 width, .int .i64 next, .int .i64 els, .int .u32 tgt,encL 5 encX e,za cs]),(3, .int .i64 i)],[])) 0 (fun i=>i≤e.length∧zhH (e.drop i)=zhH e) (fun i=>e.length - i) 0 ⟨Nat.zero_le _,rfl⟩ (Ent.keep rfl fin5) ?_
 rintro i ⟨hi,hgo⟩ wf
 unfold zfx
 by_cases hl:i < e.length
 ·
  rw [znG hl] at hgo
  (repeat first | simp (disch:=try exact dis1) only [evD,Nat.reduceBEq,Nat.reduceAdd,Nat.reduceLeDiff,fldP,dT,zp hl,zax,zZ] | with_reducible intro _ | ((with_reducible apply And.intro);omega))
  refine zi (zk (zmn e[i]) (flX rfl)) ?_
  by_cases hx:zjt e[i]=0
  ·
   rw [if_neg (by omega)] at hgo
   (repeat first | simp (disch:=try exact dis1) only [evD,Nat.reduceBEq,Nat.reduceAdd,Nat.reduceLeDiff,dF] | with_reducible intro _ | ((with_reducible apply And.intro);omega))
   exact ⟨i+1,⟨by omega,hgo⟩,by omega,Ent.keep rfl fin5⟩
  ·
   rw [if_pos hx] at hgo
   rw [← hgo,if_pos hx]
   (repeat first | simp (disch:=try exact dis1) only [evD,Nat.reduceBEq,Nat.reduceAdd,Nat.reduceLeDiff,dT,zA] | with_reducible intro _ | ((with_reducible apply And.intro);omega))
   exact ⟨_, .int _ _ _,rfl⟩
 rw [List.drop_of_length_le (by omega),zhH] at hgo
 rw [← hgo,if_neg (by omega)]
 (repeat first | simp (disch:=try exact dis1) only [evD,Nat.reduceBEq,Nat.reduceAdd,Nat.reduceLeDiff,fldP,dF] | with_reducible intro _ | ((with_reducible apply And.intro);omega))
 unfold ze8
 (repeat first | simp (disch:=try exact dis1) only [evD,Nat.reduceBEq,Nat.reduceAdd,Nat.reduceLeDiff,fldP,zls,tab,List.getD_cons_zero,List.getD_cons_succ,za] | with_reducible intro _ | ((with_reducible apply And.intro);omega))
 refine zi (zk (zpC op var width next els tgt e cs h1 h2) rfl) ?_
 cases hu:zF op var width next els tgt cs.length with
 |
  false =>
  unfold zF at hu
  have hu2:=of_decide_eq_false hu
  rw [if_neg (by unfold zy;rw [dF (fun h=>hu2 h.1)];simp)]
  (repeat first | simp (disch:=try exact dis1) only [evD,Nat.reduceBEq,Nat.reduceAdd,Nat.reduceLeDiff,dT,dF,fldP,za,zA] | with_reducible intro _ | ((with_reducible apply And.intro);omega))
  exact ⟨_, .int _ _ _,rfl⟩
 |
  true =>
  unfold zF at hu
  have hu2:=of_decide_eq_true hu
  (repeat first | simp (disch:=try exact dis1) only [evD,Nat.reduceBEq,Nat.reduceAdd,Nat.reduceLeDiff,dT,dF,fldP,za,zA] | with_reducible intro _ | ((with_reducible apply And.intro);omega))
  refine zi (zk (zlP var) rfl) ?_
  unfold zqg
  by_cases hv:0≤var∧var < 65536
  case neg =>
   rw [if_neg (by unfold zy;rw [dF (fun h=>hv h.2.1)];simp)]
   (repeat first | simp (disch:=try exact dis1) only [evD,Nat.reduceBEq,Nat.reduceAdd,Nat.reduceLeDiff,dT,dF,fldP,za,zA] | with_reducible intro _ | ((with_reducible apply And.intro);omega))
   exact ⟨_, .int _ _ _,rfl⟩
  (repeat first | simp (disch:=try exact dis1) only [evD,Nat.reduceBEq,Nat.reduceAdd,Nat.reduceLeDiff,dT,dF,fldP,za,zA] | with_reducible intro _ | ((with_reducible apply And.intro);omega))
  by_cases o2:op=2
  ·
   (repeat first | simp (disch:=try exact dis1) only [evD,Nat.reduceBEq,Nat.reduceAdd,Nat.reduceLeDiff,dT,dF,fldP,za,zA] | with_reducible intro _ | ((with_reducible apply And.intro);omega))
   by_cases w1:width=1
   ·
    rw [if_pos (by unfold zy;exact dT ⟨hu2,hv,by omega,by omega⟩)]
    (repeat first | simp (disch:=try exact dis1) only [evD,Nat.reduceBEq,Nat.reduceAdd,Nat.reduceLeDiff,dT,dF,fldP,za,zA] | with_reducible intro _ | ((with_reducible apply And.intro);omega))
    exact ⟨_, .int _ _ _,rfl⟩
   (repeat first | simp (disch:=try exact dis1) only [evD,Nat.reduceBEq,Nat.reduceAdd,Nat.reduceLeDiff,dT,dF,fldP,za,zA] | with_reducible intro _ | ((with_reducible apply And.intro);omega))
   by_cases w2:width=2
   ·
    rw [if_pos (by unfold zy;exact dT ⟨hu2,hv,by omega,by omega⟩)]
    (repeat first | simp (disch:=try exact dis1) only [evD,Nat.reduceBEq,Nat.reduceAdd,Nat.reduceLeDiff,dT,dF,fldP,za,zA] | with_reducible intro _ | ((with_reducible apply And.intro);omega))
    exact ⟨_, .int _ _ _,rfl⟩
   (repeat first | simp (disch:=try exact dis1) only [evD,Nat.reduceBEq,Nat.reduceAdd,Nat.reduceLeDiff,dT,dF,fldP,za,zA] | with_reducible intro _ | ((with_reducible apply And.intro);omega))
   by_cases w4:width=4
   ·
    rw [if_pos (by unfold zy;exact dT ⟨hu2,hv,by omega,by omega⟩)]
    (repeat first | simp (disch:=try exact dis1) only [evD,Nat.reduceBEq,Nat.reduceAdd,Nat.reduceLeDiff,dT,dF,fldP,za,zA] | with_reducible intro _ | ((with_reducible apply And.intro);omega))
    exact ⟨_, .int _ _ _,rfl⟩
   rw [if_neg (by unfold zy;rw [dF (fun h=>by have:=h.2.2.1 o2;omega)];simp)]
   (repeat first | simp (disch:=try exact dis1) only [evD,Nat.reduceBEq,Nat.reduceAdd,Nat.reduceLeDiff,dT,dF,fldP,za,zA] | with_reducible intro _ | ((with_reducible apply And.intro);omega))
   exact ⟨_, .int _ _ _,rfl⟩
  (repeat first | simp (disch:=try exact dis1) only [evD,Nat.reduceBEq,Nat.reduceAdd,Nat.reduceLeDiff,dT,dF,fldP,za,zA] | with_reducible intro _ | ((with_reducible apply And.intro);omega))
  by_cases o8:op=8
  ·
   (repeat first | simp (disch:=try exact dis1) only [evD,Nat.reduceBEq,Nat.reduceAdd,Nat.reduceLeDiff,dT,dF,fldP,za,zA] | with_reducible intro _ | ((with_reducible apply And.intro);omega))
   by_cases c1:1≤cs.length
   case neg =>
    rw [if_neg (by unfold zy;rw [dF (fun h=>by have:=h.2.2.2 o8;omega)];simp)]
    (repeat first | simp (disch:=try exact dis1) only [evD,Nat.reduceBEq,Nat.reduceAdd,Nat.reduceLeDiff,dT,dF,fldP,za,zA] | with_reducible intro _ | ((with_reducible apply And.intro);omega))
    exact ⟨_, .int _ _ _,rfl⟩
   (repeat first | simp (disch:=try exact dis1) only [evD,Nat.reduceBEq,Nat.reduceAdd,Nat.reduceLeDiff,dT,dF,fldP,za,zA] | with_reducible intro _ | ((with_reducible apply And.intro);omega))
   by_cases c2:cs.length≤64
   case neg =>
    rw [if_neg (by unfold zy;rw [dF (fun h=>by have:=h.2.2.2 o8;omega)];simp)]
    (repeat first | simp (disch:=try exact dis1) only [evD,Nat.reduceBEq,Nat.reduceAdd,Nat.reduceLeDiff,dT,dF,fldP,za,zA] | with_reducible intro _ | ((with_reducible apply And.intro);omega))
    exact ⟨_, .int _ _ _,rfl⟩
   rw [if_pos (by unfold zy;exact dT ⟨hu2,hv,by omega,by omega⟩)]
   (repeat first | simp (disch:=try exact dis1) only [evD,Nat.reduceBEq,Nat.reduceAdd,Nat.reduceLeDiff,dT,dF,fldP,za,zA] | with_reducible intro _ | ((with_reducible apply And.intro);omega))
   exact ⟨_, .int _ _ _,rfl⟩
  rw [if_pos (by unfold zy;exact dT ⟨hu2,hv,by omega,by omega⟩)]
  (repeat first | simp (disch:=try exact dis1) only [evD,Nat.reduceBEq,Nat.reduceAdd,Nat.reduceLeDiff,dT,dF,fldP,za,zA] | with_reducible intro _ | ((with_reducible apply And.intro);omega))
  exact ⟨_, .int _ _ _,rfl⟩
theorem ztR {op:Int}:zU op < 0↔(op < 1∨10 < op):=by
 unfold zU
 constructor
 ·
  intro h
  repeat' split at h
  all_goals omega
 ·
  intro h
  rw [if_neg (by omega),if_neg (by omega),if_neg (by omega)]
  omega
theorem zns (op var width next els tgt:Int) (e:List Ex) (cs:List Int):zz Tryz.prog zd6 [.agg [.int .i64 op, .int .i64 var, .int .i64 width, .int .i64 next, .int .i64 els, .int .u32 tgt,encL 5 encX e,za cs]] (·=.int .i64 (zpe op var width next els tgt e cs)):=by
 refine fn_x zm7 rfl ?_
 unfold ziI zpe
 have hB:=hBig
 (repeat first | simp (disch:=try exact dis1) only [evD,Nat.reduceBEq,Nat.reduceAdd,Nat.reduceLeDiff,dT,dF,fldP,za,zaC] | with_reducible intro _ | ((with_reducible apply And.intro);omega))
 refine zi (zk (zll op) rfl) ?_
 have hneg:=ztR (op:=op)
 generalize zU op=n at hneg ⊢
 by_cases h1:n < 0
 ·
  rw [if_pos (.inl (hneg.1 h1))]
  (repeat first | simp (disch:=try exact dis1) only [evD,Nat.reduceBEq,Nat.reduceAdd,Nat.reduceLeDiff,dT,dF,fldP,za,zaC] | with_reducible intro _ | ((with_reducible apply And.intro);omega))
  exact ⟨_, .int _ _ _,rfl⟩
 have hop:¬ (op < 1∨10 < op):=fun h=>h1 (hneg.2 h)
 (repeat first | simp (disch:=try exact dis1) only [evD,Nat.reduceBEq,Nat.reduceAdd,Nat.reduceLeDiff,dT,dF,fldP,za,zaC] | with_reducible intro _ | ((with_reducible apply And.intro);omega))
 by_cases h3:n=e.length
 case neg =>
  rw [if_pos (.inr h3)]
  (repeat first | simp (disch:=try exact dis1) only [evD,Nat.reduceBEq,Nat.reduceAdd,Nat.reduceLeDiff,dT,dF,fldP,za,zaC] | with_reducible intro _ | ((with_reducible apply And.intro);omega))
  exact ⟨_, .int _ _ _,rfl⟩
 rw [if_neg (by omega)]
 (repeat first | simp (disch:=try exact dis1) only [evD,Nat.reduceBEq,Nat.reduceAdd,Nat.reduceLeDiff,dT,dF,fldP,za,zaC] | with_reducible intro _ | ((with_reducible apply And.intro);omega))
 refine zg (fun i:Nat=>([(1,encP 8 [.int .i64 op, .int .i64 var, .int .i64 width, .int .i64 next, .int .i64 els, .int .u32 tgt,encL 5 encX e,za cs]),(20,encL 5 encX e),(21, .int .i64 e.length),(22, .int .i64 i)],[])) 0 (fun i=>i≤e.length∧zhH (e.drop i)=zhH e) (fun i=>e.length - i) 0 ⟨Nat.zero_le _,rfl⟩ (Ent.keep rfl fin5) ?_
 rintro i ⟨hi,hgo⟩ wf
 unfold zgb
 by_cases hl:i < e.length
 ·
  rw [znG hl] at hgo
  (repeat first | simp (disch:=try exact dis1) only [evD,Nat.reduceBEq,Nat.reduceAdd,Nat.reduceLeDiff,fldP,dT,zp hl,zax,zZ] | with_reducible intro _ | ((with_reducible apply And.intro);omega))
  refine zi (zk (zn4 e[i]) (flX rfl)) ?_
  by_cases hx:zjt e[i]=0
  ·
   rw [if_neg (by omega)] at hgo
   (repeat first | simp (disch:=try exact dis1) only [evD,Nat.reduceBEq,Nat.reduceAdd,Nat.reduceLeDiff,dF] | with_reducible intro _ | ((with_reducible apply And.intro);omega))
   exact ⟨i+1,⟨by omega,hgo⟩,by omega,(Ent.tab [] [] rfl (by (try simp only [evWB,Nat.reduceBEq,Nat.reduceAdd,Nat.reduceSub,Nat.reduceLeDiff,Nat.reduceLT,implies_true])<;>exact fin2) (by (try simp only [evWB,Nat.reduceBEq,Nat.reduceAdd,Nat.reduceSub,Nat.reduceLeDiff,Nat.reduceLT,implies_true])<;>exact fin2))⟩
  ·
   rw [if_pos hx] at hgo
   rw [← hgo,if_pos hx]
   (repeat first | simp (disch:=try exact dis1) only [evD,Nat.reduceBEq,Nat.reduceAdd,Nat.reduceLeDiff,dT,zaC] | with_reducible intro _ | ((with_reducible apply And.intro);omega))
   exact ⟨_, .int _ _ _,rfl⟩
 rw [List.drop_of_length_le (by omega),zhH] at hgo
 rw [← hgo,if_neg (by omega)]
 (repeat first | simp (disch:=try exact dis1) only [evD,Nat.reduceBEq,Nat.reduceAdd,Nat.reduceLeDiff,fldP,dF] | with_reducible intro _ | ((with_reducible apply And.intro);omega))
 unfold zfI
 (repeat first | simp (disch:=try exact dis1) only [evD,Nat.reduceBEq,Nat.reduceAdd,Nat.reduceLeDiff,fldP,zls,tab,List.getD_cons_zero,List.getD_cons_succ,za] | with_reducible intro _ | ((with_reducible apply And.intro);omega))
 refine zi (zk (zrL op var width next els tgt e cs (by omega) (by omega)) rfl) ?_
 cases zy op var width next els tgt cs.length with
 |
  false =>
  (repeat first | simp (disch:=try exact dis1) only [evD,Nat.reduceBEq,Nat.reduceAdd,Nat.reduceLeDiff,dT,dF,fldP,za,zaC] | with_reducible intro _ | ((with_reducible apply And.intro);omega))
  exact ⟨_, .int _ _ _,rfl⟩
 |
  true =>
  (repeat first | simp (disch:=try exact dis1) only [evD,Nat.reduceBEq,Nat.reduceAdd,Nat.reduceLeDiff,dT,dF,fldP,za,zaC] | with_reducible intro _ | ((with_reducible apply And.intro);omega))
  exact ⟨_, .int _ _ _,rfl⟩
structure St where
 op:Int
 var:Int
 width:Int
 next:Int
 els:Int
 tgt:Int
 e:List Ex
 cases:List Int
def St.cells (s:St):List AV:=[.int .i64 s.op, .int .i64 s.var, .int .i64 s.width, .int .i64 s.next, .int .i64 s.els, .int .u32 s.tgt,encL 5 encX s.e,za s.cases]
structure Bl where
 addr:Int
 stmts:List St
def Bl.cells (b:Bl):List AV:=[.int .u32 b.addr,encL 8 St.cells b.stmts]
structure G where
 addr:Int
 blocks:List Bl
def G.cells (g:G):List AV:=[.int .u32 g.addr,encL 2 Bl.cells g.blocks]
theorem St.len (s:St):s.cells.length=8:=rfl
theorem St.flat (s:St):zK s.cells=true:=rfl
theorem St.eight (s:St):[s.cells.getD 0 .undef,s.cells.getD 1 .undef,s.cells.getD 2 .undef,s.cells.getD 3 .undef,s.cells.getD 4 .undef,s.cells.getD 5 .undef,s.cells.getD 6 .undef,s.cells.getD 7 .undef]=s.cells:=rfl
theorem Bl.two (b:Bl):[b.cells.getD 0 .undef,b.cells.getD 1 .undef]=b.cells:=rfl
def zjO (s:St):Bool:=decide (6≤s.op∧s.op≤10)
def zf9 (s:St):List Int:=if s.op=6 then [s.next] else if s.op=7 then [s.next,s.els] else if s.op=8 then s.cases else []
def St.check (s:St):Int:=zpe s.op s.var s.width s.next s.els s.tgt s.e s.cases
theorem zmo (s:St):zz Tryz.prog zdc [.agg s.cells] (·=.int .i64 s.check):=zmt _ _ _ _ _ _ _ _
theorem zna (s:St):zz Tryz.prog zd6 [.agg s.cells] (·=.int .i64 s.check):=zns _ _ _ _ _ _ _ _
theorem zsw (s:St):zz Tryz.prog zk6 [.agg s.cells] (·=.bool (zjO s)):=by
 refine fn_x ztM rfl ?_
 unfold zny
 have hB:=hBig
 obtain ⟨op,var,width,next,els,tgt,e,cs⟩:=s
 unfold zjO
 by_cases h1:6≤op
 ·
  (repeat first | simp (disch:=try exact dis1) only [evD,Nat.reduceBEq,Nat.reduceAdd,Nat.reduceLeDiff,dT,fldP,za,St.cells,zjL] | with_reducible intro _ | ((with_reducible apply And.intro);omega))
  exact ⟨_, .bool _ _,congrArg AV.bool (decide_eq_decide.2 (by omega))⟩
 ·
  (repeat first | simp (disch:=try exact dis1) only [evD,Nat.reduceBEq,Nat.reduceAdd,Nat.reduceLeDiff,dF,fldP,za,St.cells,zjL] | with_reducible intro _ | ((with_reducible apply And.intro);omega))
  exact ⟨_, .bool _ _,rfl⟩
theorem zhw (s:St):zz Tryz.prog zcj [.agg s.cells] (·=.bool (zjO s)):=by
 refine fn_x zmb rfl ?_
 unfold zhI
 have hB:=hBig
 obtain ⟨op,var,width,next,els,tgt,e,cs⟩:=s
 unfold zjO
 by_cases h1:6≤op
 ·
  (repeat first | simp (disch:=try exact dis1) only [evD,Nat.reduceBEq,Nat.reduceAdd,Nat.reduceLeDiff,dT,fldP,za,St.cells,zen] | with_reducible intro _ | ((with_reducible apply And.intro);omega))
  exact ⟨_, .bool _ _,congrArg AV.bool (decide_eq_decide.2 (by omega))⟩
 ·
  (repeat first | simp (disch:=try exact dis1) only [evD,Nat.reduceBEq,Nat.reduceAdd,Nat.reduceLeDiff,dF,fldP,za,St.cells,zen] | with_reducible intro _ | ((with_reducible apply And.intro);omega))
  exact ⟨_, .bool _ _,rfl⟩
theorem zjl (s:St):zz Tryz.prog zeU [.agg s.cells] (·=za (zf9 s)):=by
 refine fn_x zoo rfl ?_
 unfold zjp
 have hB:=hBig
 obtain ⟨op,var,width,next,els,tgt,e,cs⟩:=s
 unfold zf9
 simp only
 by_cases h6:op=6
 ·
  rw [if_pos h6]
  (repeat first | simp (disch:=try exact dis1) only [evD,Nat.reduceBEq,Nat.reduceAdd,Nat.reduceLeDiff,dT,dF,fldP,za,St.cells,zcB] | with_reducible intro _ | ((with_reducible apply And.intro);omega))
  exact ⟨_,zai (l:=[next]) trivial rfl (by simp only [List.length_singleton];omega),rfl⟩
 rw [if_neg h6]
 by_cases h7:op=7
 ·
  rw [if_pos h7]
  (repeat first | simp (disch:=try exact dis1) only [evD,Nat.reduceBEq,Nat.reduceAdd,Nat.reduceLeDiff,dT,dF,fldP,za,St.cells,zcB] | with_reducible intro _ | ((with_reducible apply And.intro);omega))
  exact ⟨_,zai (l:=[next,els]) trivial rfl (by simp only [List.length_cons,List.length_nil];omega),rfl⟩
 rw [if_neg h7]
 by_cases h8:op=8
 ·
  rw [if_pos h8]
  (repeat first | simp (disch:=try exact dis1) only [evD,Nat.reduceBEq,Nat.reduceAdd,Nat.reduceLeDiff,dT,dF,fldP,za,St.cells,zcB] | with_reducible intro _ | ((with_reducible apply And.intro);omega))
  exact ⟨_,zT rfl,rfl⟩
 rw [if_neg h8]
 (repeat first | simp (disch:=try exact dis1) only [evD,Nat.reduceBEq,Nat.reduceAdd,Nat.reduceLeDiff,dT,dF,fldP,za,St.cells,zcB] | with_reducible intro _ | ((with_reducible apply And.intro);omega))
 exact ⟨_,zai (l:=[]) trivial rfl (by simp only [List.length_nil];omega),rfl⟩
end Go.Ab
namespace Go.Ab
open Go.RowKit Go.Proofs Go.Proofs.YtdhlfajcofgpkaaGreat
section
variable {HH:Type} {enc:TypeId × Value→HH} {w:World} {base:Nat} {spare:Nat→Bool} {held:Bool} {L:Nat→Prop} (hL:∀ b,¬ L b)
include hL
theorem zza {fuel:Nat} {cs:List Value} {y:DataW HH × List MemPlace} (h:DataW.trod enc Tryz.prog w base spare held fuel 54 cs=some y):∃ s:St,ElOk w L cs s.cells:=by
 have hcx:Tryz.prog.cellsOf 66=5:=by kernel_rfl
 obtain ⟨xs,n,rfl,rfl,hlen,hxs,hf⟩:=DataW.trod_struct Tryz.underlying54 h
 have hc:Tryz.prog.cellsOf 54=8:=by kernel_rfl
 have hc3:Tryz.prog.cellsOf 3=1:=by kernel_rfl
 have hc22:Tryz.prog.cellsOf 22=1:=by kernel_rfl
 have hc26:Tryz.prog.cellsOf 26=1:=by kernel_rfl
 have hc52:Tryz.prog.cellsOf 52=1:=by kernel_rfl
 rw [hc] at hlen
 have hget:∀ i,i < 8→xs[i]? = some (xs.getD i (.nil,[])):=fun i hi=>by
  rw [List.getD_eq_getElem?_getD,List.getElem?_eq_getElem (by rw [hxs];exact hi)]
  rfl
 match cs,hlen with
 |
  [c0,c1,c2,c3,c4,c5,c6,c7],_ =>
  have f0:DataW.trod enc Tryz.prog w base spare held n 3 (([c0,c1,c2,c3,c4,c5,c6,c7].drop 0).take (Tryz.prog.cellsOf 3))=some (xs.getD 0 (.nil,[])):=(hf 0 _ rfl).trans (hget 0 (by decide))
  rw [hc3] at f0
  replace f0:DataW.trod enc Tryz.prog w base spare held n 3 [c0]=some (xs.getD 0 (.nil,[])):=f0
  have f1:DataW.trod enc Tryz.prog w base spare held n 3 (([c0,c1,c2,c3,c4,c5,c6,c7].drop 1).take (Tryz.prog.cellsOf 3))=some (xs.getD 1 (.nil,[])):=(hf 1 _ rfl).trans (hget 1 (by decide))
  rw [hc3] at f1
  replace f1:DataW.trod enc Tryz.prog w base spare held n 3 [c1]=some (xs.getD 1 (.nil,[])):=f1
  have f2:DataW.trod enc Tryz.prog w base spare held n 3 (([c0,c1,c2,c3,c4,c5,c6,c7].drop 2).take (Tryz.prog.cellsOf 3))=some (xs.getD 2 (.nil,[])):=(hf 2 _ rfl).trans (hget 2 (by decide))
  rw [hc3] at f2
  replace f2:DataW.trod enc Tryz.prog w base spare held n 3 [c2]=some (xs.getD 2 (.nil,[])):=f2
  have f3:DataW.trod enc Tryz.prog w base spare held n 3 (([c0,c1,c2,c3,c4,c5,c6,c7].drop 3).take (Tryz.prog.cellsOf 3))=some (xs.getD 3 (.nil,[])):=(hf 3 _ rfl).trans (hget 3 (by decide))
  rw [hc3] at f3
  replace f3:DataW.trod enc Tryz.prog w base spare held n 3 [c3]=some (xs.getD 3 (.nil,[])):=f3
  have f4:DataW.trod enc Tryz.prog w base spare held n 3 (([c0,c1,c2,c3,c4,c5,c6,c7].drop 4).take (Tryz.prog.cellsOf 3))=some (xs.getD 4 (.nil,[])):=(hf 4 _ rfl).trans (hget 4 (by decide))
  rw [hc3] at f4
  replace f4:DataW.trod enc Tryz.prog w base spare held n 3 [c4]=some (xs.getD 4 (.nil,[])):=f4
  have f5:DataW.trod enc Tryz.prog w base spare held n 22 (([c0,c1,c2,c3,c4,c5,c6,c7].drop 5).take (Tryz.prog.cellsOf 22))=some (xs.getD 5 (.nil,[])):=(hf 5 _ rfl).trans (hget 5 (by decide))
  rw [hc22] at f5
  replace f5:DataW.trod enc Tryz.prog w base spare held n 22 [c5]=some (xs.getD 5 (.nil,[])):=f5
  have f6:DataW.trod enc Tryz.prog w base spare held n 52 (([c0,c1,c2,c3,c4,c5,c6,c7].drop 6).take (Tryz.prog.cellsOf 52))=some (xs.getD 6 (.nil,[])):=(hf 6 _ rfl).trans (hget 6 (by decide))
  rw [hc52] at f6
  replace f6:DataW.trod enc Tryz.prog w base spare held n 52 [c6]=some (xs.getD 6 (.nil,[])):=f6
  have f7:DataW.trod enc Tryz.prog w base spare held n 26 (([c0,c1,c2,c3,c4,c5,c6,c7].drop 7).take (Tryz.prog.cellsOf 26))=some (xs.getD 7 (.nil,[])):=(hf 7 _ rfl).trans (hget 7 (by decide))
  rw [hc26] at f7
  replace f7:DataW.trod enc Tryz.prog w base spare held n 26 [c7]=some (xs.getD 7 (.nil,[])):=f7
  obtain ⟨n0,h0,w0⟩:=zgA Tryz.underlying3 f0
  obtain ⟨n1,h1,w1⟩:=zgA Tryz.underlying3 f1
  obtain ⟨n2,h2,w2⟩:=zgA Tryz.underlying3 f2
  obtain ⟨n3,h3,w3⟩:=zgA Tryz.underlying3 f3
  obtain ⟨n4,h4,w4⟩:=zgA Tryz.underlying3 f4
  obtain ⟨n5,h5,w5⟩:=zgA Tryz.underlying22 f5
  obtain ⟨l6,v6,h6,o6,w6⟩:=zr7 (L:=L) (α:=Ex) (cells:=encX) hL Tryz.underlying52 hcx (fun fuel' hf' cs y h _=>zBT hL fuel' fuel' (Nat.le_refl _) cs y h) f6
  obtain ⟨l7,v7,h7,o7,w7⟩:=zxQ Tryz.underlying26 Tryz.underlying3 hc3 hL f7
  cases h0;cases h1;cases h2;cases h3;cases h4;cases h5;cases h6;cases h7
  refine ⟨⟨n0,n1,n2,n3,n4,n5,l6,l7⟩,fun j hj=>?_⟩
  match j with
  | 0=>exact ⟨.int _ _ _ w0,rfl⟩
  | 1=>exact ⟨.int _ _ _ w1,rfl⟩
  | 2=>exact ⟨.int _ _ _ w2,rfl⟩
  | 3=>exact ⟨.int _ _ _ w3,rfl⟩
  | 4=>exact ⟨.int _ _ _ w4,rfl⟩
  | 5=>exact ⟨.int _ _ _ w5,rfl⟩
  | 6=>exact ⟨w6 _,o6⟩
  | 7=>exact ⟨w7 _,o7⟩
  | j+8=>exact absurd hj (by simp)
theorem zy0 {fuel:Nat} {cs:List Value} {y:DataW HH × List MemPlace} (h:DataW.trod enc Tryz.prog w base spare held fuel 51 cs=some y):∃ b:Bl,ElOk w L cs b.cells:=by
 have hcs:Tryz.prog.cellsOf 54=8:=by kernel_rfl
 obtain ⟨xs,n,rfl,rfl,hlen,hxs,hf⟩:=DataW.trod_struct Tryz.underlying51 h
 have hc:Tryz.prog.cellsOf 51=2:=by kernel_rfl
 have hc22:Tryz.prog.cellsOf 22=1:=by kernel_rfl
 have hc49:Tryz.prog.cellsOf 49=1:=by kernel_rfl
 rw [hc] at hlen
 have hget:∀ i,i < 2→xs[i]? = some (xs.getD i (.nil,[])):=fun i hi=>by
  rw [List.getD_eq_getElem?_getD,List.getElem?_eq_getElem (by rw [hxs];exact hi)]
  rfl
 match cs,hlen with
 |
  [c0,c1],_ =>
  have f0:DataW.trod enc Tryz.prog w base spare held n 22 (([c0,c1].drop 0).take (Tryz.prog.cellsOf 22))=some (xs.getD 0 (.nil,[])):=(hf 0 _ rfl).trans (hget 0 (by decide))
  rw [hc22] at f0
  replace f0:DataW.trod enc Tryz.prog w base spare held n 22 [c0]=some (xs.getD 0 (.nil,[])):=f0
  have f1:DataW.trod enc Tryz.prog w base spare held n 49 (([c0,c1].drop 1).take (Tryz.prog.cellsOf 49))=some (xs.getD 1 (.nil,[])):=(hf 1 _ rfl).trans (hget 1 (by decide))
  rw [hc49] at f1
  replace f1:DataW.trod enc Tryz.prog w base spare held n 49 [c1]=some (xs.getD 1 (.nil,[])):=f1
  obtain ⟨n0,h0,w0⟩:=zgA Tryz.underlying22 f0
  obtain ⟨l1,v1,h1,o1,w1⟩:=zpH (α:=St) (cells:=St.cells) (L:=L) Tryz.underlying49 hcs hL (fun _ _ _ h _=>zza hL h) f1
  cases h0;cases h1
  refine ⟨⟨n0,l1⟩,fun j hj=>?_⟩
  match j with
  | 0=>exact ⟨.int _ _ _ w0,rfl⟩
  | 1=>exact ⟨w1 _,o1⟩
  | j+2=>exact absurd hj (by simp)
theorem zAl {fuel:Nat} {cs:List Value} {y:DataW HH × List MemPlace} (h:DataW.trod enc Tryz.prog w base spare held fuel 25 cs=some y):∃ g:G,cs.length=2∧ElOk w L cs g.cells∧∀ j,j < 2→∀ ι,VR w L ι (cs.getD j undef) (g.cells.getD j .undef):=by
 have hcb:Tryz.prog.cellsOf 51=2:=by kernel_rfl
 obtain ⟨xs,n,rfl,rfl,hlen,hxs,hf⟩:=DataW.trod_struct Tryz.underlying25 h
 have hc:Tryz.prog.cellsOf 25=2:=by kernel_rfl
 have hc22:Tryz.prog.cellsOf 22=1:=by kernel_rfl
 have hc23:Tryz.prog.cellsOf 23=1:=by kernel_rfl
 rw [hc] at hlen
 have hget:∀ i,i < 2→xs[i]? = some (xs.getD i (.nil,[])):=fun i hi=>by
  rw [List.getD_eq_getElem?_getD,List.getElem?_eq_getElem (by rw [hxs];exact hi)]
  rfl
 match cs,hlen with
 |
  [c0,c1],_ =>
  have f0:DataW.trod enc Tryz.prog w base spare held n 22 (([c0,c1].drop 0).take (Tryz.prog.cellsOf 22))=some (xs.getD 0 (.nil,[])):=(hf 0 _ rfl).trans (hget 0 (by decide))
  rw [hc22] at f0
  replace f0:DataW.trod enc Tryz.prog w base spare held n 22 [c0]=some (xs.getD 0 (.nil,[])):=f0
  have f1:DataW.trod enc Tryz.prog w base spare held n 23 (([c0,c1].drop 1).take (Tryz.prog.cellsOf 23))=some (xs.getD 1 (.nil,[])):=(hf 1 _ rfl).trans (hget 1 (by decide))
  rw [hc23] at f1
  replace f1:DataW.trod enc Tryz.prog w base spare held n 23 [c1]=some (xs.getD 1 (.nil,[])):=f1
  obtain ⟨n0,h0,w0⟩:=zgA Tryz.underlying22 f0
  obtain ⟨l1,v1,h1,o1,w1⟩:=zpH (α:=Bl) (cells:=Bl.cells) (L:=L) Tryz.underlying23 hcb hL (fun _ _ _ h _=>zy0 hL h) f1
  cases h0;cases h1
  refine ⟨⟨n0,l1⟩,rfl,fun j hj=>?_,fun j hj ι=>?_⟩
  ·
   match j with
   | 0=>exact ⟨.int _ _ _ w0,rfl⟩
   | 1=>exact ⟨w1 _,o1⟩
   | j+2=>exact absurd hj (by simp)
  ·
   match j with
   | 0=>exact .int _ _ _ w0
   | 1=>exact w1 _
   | j+2=>omega
theorem open_graph {v:Value} {d:DataW HH} {ps:List MemPlace} (hv:Value.okWide Tryz.prog w .any base 25 v) {b2:Nat} (h:DataW.Trod enc Tryz.prog w b2 spare held 25 v d ps):∃ g:G,True∧∀ ι,VR w L ι v (.agg g.cells):=by
 obtain ⟨fuel,hf⟩:=h
 unfold Value.okWide at hv
 rw [Tryz.underlying25] at hv
 simp only at hv
 obtain ⟨cs,rfl,_,_⟩:=hv
 have hf':DataW.trod enc Tryz.prog w b2 spare held fuel 25 cs.toList=some (d,ps):=hf
 obtain ⟨g,h1,h2,h3⟩:=zAl hL hf'
 refine ⟨g,trivial,fun ι=>.agg ι cs _ (by
  have:cs.size=2:=by simpa using h1
  rw [this];rfl) (fun i v hi=>?_) (fun i v a hi ha=>?_)⟩
 ·
  have hi2:i < cs.size:=by
   rcases Nat.lt_or_ge i cs.size with h | h
   · exact h
   · rw [Array.getElem?_eq_none h] at hi;cases hi
  have:=(h2 i (by simpa using hi2)).2
  rw [List.getD_eq_getElem?_getD,Array.getElem?_toList,hi] at this
  exact this
 ·
  have hi2:i < cs.size:=by
   rcases Nat.lt_or_ge i cs.size with h | h
   · exact h
   · rw [Array.getElem?_eq_none h] at hi;cases hi
  have hi3:i < 2:=by rw [← h1];simpa using hi2
  have:=h3 i hi3 ι
  rw [List.getD_eq_getElem?_getD,Array.getElem?_toList,hi,List.getD_eq_getElem?_getD,ha] at this
  exact this
end
end Go.Ab
namespace Go.Ab
open Go.RowKit Go.Proofs Go.Proofs.YtdhlfajcofgpkaaGreat Go.ChangeShapes Go.WideShapes
theorem zwb {HH:Type} {enc:TypeId × Value→HH} {w:World} {base b2:Nat} {spare:Nat→Bool} {held:Bool} {L:Nat→Prop} (hL:∀ b,¬ L b) {t e:TypeId} {k:IntKind} (ht:Tryz.prog.underlying t=some (.slice e)) (he:Tryz.prog.underlying e=some (.int k)) (hs:Tryz.prog.cellsOf e=1)
  {v:Value} {d:DataW HH} {ps:List MemPlace} (hv:Value.okWide Tryz.prog w .any base t v) (h:DataW.Trod enc Tryz.prog w b2 spare held t v d ps):∃ l:List Int,True∧∀ ι,VR w L ι v (encL 1 (fun n=>[.int k n]) l):=by
 obtain ⟨a0,len,cap,rfl⟩:=okWide_slice ht hv
 obtain ⟨fuel,hf⟩:=h
 obtain ⟨l,v2,h1,_,h3⟩:=zxQ ht he hs hL hf
 have:v2=.slice a0 len cap:=by
  simp [Value.cells] at h1
  exact h1.symm
 subst this
 exact ⟨l,trivial,h3⟩
theorem open_intsI {HH:Type} {enc:TypeId × Value→HH} {w:World} {base b2:Nat} {spare:Nat→Bool} {held:Bool} {L:Nat→Prop} (hL:∀ b,¬ L b)
  {v:Value} {d:DataW HH} {ps:List MemPlace} (hv:Value.okWide Tryz.prog w .any base 26 v) (h:DataW.Trod enc Tryz.prog w b2 spare held 26 v d ps):∃ l:List Int,True∧∀ ι,VR w L ι v (za l) :=
 zwb hL Tryz.underlying26 Tryz.underlying3 (by kernel_rfl) hv h
end Go.Ab
namespace Go.Ab
open Go.RowKit Go.Proofs Go.Maps Go.Sort Go.Shelf
def insI (x:Int):List Int→List Int
 | []=>[x]
 | y::r=>bif decide (x≤y) then x::y::r else y::insI x r
def zcm:List Int→List Int
 | []=>[]
 | x::r=>insI x (zcm r)
theorem zmT (x:Int):∀ l:List Int,(insI x l).Perm (x::l)
 | []=>.refl _
 |
  y::r=>by
  rw [insI]
  cases decide (x≤y)
  · exact ((zmT x r).cons y).trans (.swap x y r)
  · exact .refl _
theorem z8:∀ l:List Int,(zcm l).Perm l
 | []=>.refl _
 | x::r=>(zmT x _).trans ((z8 r).cons x)
theorem zno (x:Int):∀ l:List Int,l.Pairwise (·≤·)→(insI x l).Pairwise (·≤·)
 | [],_=>by simp [insI]
 |
  y::r,h=>by
  rw [insI]
  rw [List.pairwise_cons] at h
  cases hd:decide (x≤y) with
  |
   true =>
   have hxy:x≤y:=of_decide_eq_true hd
   refine List.pairwise_cons.2 ⟨fun z hz=>?_,List.pairwise_cons.2 h⟩
   rcases List.mem_cons.1 hz with rfl | hz
   · exact hxy
   · exact Int.le_trans hxy (h.1 z hz)
  |
   false =>
   have hxy:¬ x≤y:=of_decide_eq_false hd
   refine List.pairwise_cons.2 ⟨fun z hz=>?_,zno x r h.2⟩
   rcases List.mem_cons.1 ((zmT x r).mem_iff.1 hz) with rfl | hz
   · omega
   · exact h.1 z hz
theorem zbI:∀ l:List Int,(zcm l).Pairwise (·≤·)
 | []=>.nil
 | x::r=>zno x _ (zbI r)
theorem zn8 {l m:List Int} (h:l.Perm m) (hl:l.Pairwise (·≤·)) (hm:m.Pairwise (·≤·)):l=m :=
 List.Perm.eq_of_pairwise (fun _ _ _ _ h1 h2=>Int.le_antisymm h1 h2) hl hm h
theorem znQ {l m:List Int} (h:l.Perm m):l.mergeSort (fun x y=>decide (x≤y))=zcm m:=by
 refine zn8 ((List.mergeSort_perm _ _).trans (h.trans (z8 m).symm)) ?_ (zbI m)
 have:=List.pairwise_mergeSort (le:=fun x y:Int=>decide (x≤y)) (fun a b c h1 h2=>by simp only [decide_eq_true_eq] at *;exact Int.le_trans h1 h2) (fun a b=>by simp only [Bool.or_eq_true,decide_eq_true_eq];exact Int.le_total a b) l
 exact this.imp fun h=>of_decide_eq_true h
section
variable {w:World} {L:Nat→Prop} {ι:Inj} {H:AH} {nx:Nat}
theorem zh0 {α β:Type} {f:α→β}:∀ {l:List α},(l.map f).Nodup→l.Nodup
 | [],_=>.nil
 |
  a::l,h=>by
  rw [List.map_cons,List.nodup_cons] at h
  exact List.nodup_cons.2 ⟨fun hm=>h.1 (List.mem_map_of_mem hm),zh0 h.2⟩
end
end Go.Ab
namespace Go.Ab
open Go.RowKit Go.Proofs Go.Sort Go.Shelf
theorem zwn {α:Type} [Inhabited α] {w:World} {b blk off:Nat} {enc:α→Value} {d:Array α} (h:FzOk w b):FzOk (putRow enc w blk off d) b:=by
 intro c e lo hi hh
 unfold putRow mapBlock at hh
 simp only [Array.getElem?_modify] at hh
 by_cases hb:blk=b
 ·
  subst hb
  rw [if_pos rfl] at hh
  cases ho:w.heap[blk]? with
  | none=>rw [ho] at hh;cases hh
  |
   some o =>
   rw [ho] at hh
   cases o with
   |
    cells c0 e0 f0 =>
    obtain ⟨lo0,hi0⟩:=f0
    simp only [Option.map_some,onCells,Option.some.injEq,Obj.cells.injEq,Prod.mk.injEq] at hh
    obtain ⟨rfl,rfl,rfl,rfl⟩:=hh
    rcases h c0 e0 _ _ ho with h1 | h1
    · exact .inl h1
    · exact .inr (by unfold putCells;simpa using h1)
   | _=>simp [onCells] at hh
 ·
  rw [if_neg hb] at hh
  exact h c e lo hi hh
section
variable {w:World} {L:Nat→Prop} {ι:Inj} {H:AH} {nx:Nat}
theorem znF {r q g:Nat} {zs:List Int} (hr:H.get r q=some (.row 1 (zs.map fun n=>[.int .i64 n]) g)) (hlen:zs.length≤1000000) :
  zad Tryz.prog zb7 [.own r q g 0 zs.length] H nx (fun v H' nx'=>(v,H',nx')=(.tup [],H.set r q (.row 1 ((zcm zs).map fun n=>[.int .i64 n]) g),nx)):=by
 intro w L ι vs rel hv
 obtain ⟨mv,hvs,hmv⟩:∃ mv,vs=#[mv]∧VR w (Lt L ι H) ι mv (.own r q g 0 zs.length):=by
  rcases vs with ⟨l⟩
  cases hv with
  | cons h1 h2=>cases h2;exact ⟨_,rfl,h1⟩
 subst hvs
 have hsl:(zcm zs).length=zs.length:=(z8 zs).length_eq
 cases hmv with
 |
  own _ _ _ _ _ _ a c l hl hmx hn hc ha =>
  obtain ⟨l',hl',ok⟩:=rel.row _ _ _ _ _ hr
  rw [hl] at hl'
  cases hl'
  have hsame:∀ l0,ι r q g=some l0→l0=l:=fun l0 h0=>by rw [hl] at h0;cases h0;rfl
  have hsz:l.sz=1:=ok.hsz
  have nil:∀ {M:Nat→Prop} {ι':Inj} {w':World},VR w' M ι' (.tuple #[]) (.tup []):=.tup _ _ _ rfl (fun i v a h=>by simp at h)
  rcases Nat.eq_zero_or_pos zs.length with h0 | hpos
  ·
   obtain rfl:zs=[]:=List.eq_nil_of_length_eq_zero h0
   refine (AnyM.slices_Sort_int_none zxS a c w).mono fun e w' ⟨he,hw⟩=>?_
   subst hw
   have c1:Chg w' ι H r q g l w':=⟨rfl,rfl,rfl,Nat.le_refl _,fun _ _ _=>rfl,fun hpos=>.inl ⟨1,_,g,l,hr,hl,hpos,rfl⟩,hsame,fun g2 l2 h2=>rel.gen r q _ _ _ hr g2 l2 h2⟩
   refine ⟨_,_,_,_,_,he,c1.step (.inl ⟨_,_,hr⟩) rel (rel.idx _ _ _ _ hl) (Nat.le_refl _) (.mk' ok.hsz (ok.plain hmx).len hmx (ok.plain hmx).there (ok.plain hmx).fz (fun i c h=>by simp [zcm] at h) (fun i c' j a h1 h2=>by simp [zcm] at h1)),Nat.le_refl _,nil,rfl⟩
  ·
   obtain rfl:=ha (by omega)
   have hoff:l.off+0 * l.sz=l.off:=by omega
   rw [hoff]
   have hcap:0 < l.cap * l.sz:=by rw [hsz];omega
   have hblk:=ok.blk_lt hcap
   have hget:∀ {ys:List Int} {j:Nat},j < ys.length→(ys.toArray)[j]! = ys.getD j 0:=fun {ys j} h=>by simp [h,List.getD]
   have hin:∀ j,j < zs.length→w.cell? ⟨l.block,l.off+j,none⟩=some (.int .i64 (zs.getD j 0))∧InR .i64 (zs.getD j 0):=by
    intro j hj
    have e:zs.getD j 0=zs[j]:=by simp [List.getD,hj]
    obtain ⟨v,h1,_,h2⟩:=ok.holds hmx j [.int .i64 zs[j]] 0 (.int .i64 zs[j]) (by rw [List.getElem?_map,List.getElem?_eq_getElem hj];rfl) rfl
    cases h2 with
    |
     int _ _ _ h3 =>
     rw [e]
     simp only [Nat.mul_one,Nat.add_zero] at h1
     exact ⟨h1,h3⟩
   have hH:Holds (Value.int .i64) w l.block l.off zs.toArray:=fun j hj=>by
    have hj':j < zs.length:=by simpa using hj
    rw [hget hj']
    exact ⟨(hin j hj').1,((ok.plain hmx).there j (by have:=(ok.plain hmx).len;simp only [List.length_map] at this;omega)).2⟩
   refine (AnyM.slices_Sort_int zxS l.block l.off c zs w hH hblk (by omega)).mono fun e w' ⟨he,n,os,hw⟩=>?_
   rw [znQ (List.Perm.refl zs)] at hw
   have hcell:∀ j,j < zs.length→w'.cell? ⟨l.block,l.off+j,none⟩=some (.int .i64 ((zcm zs).getD j 0)):=fun j hj=>by
    rw [hw,cell?_grow _ _ _ (by simpa using hblk),putRow_ahead,cell?_ahead,cell?_putRow _ _ _ _ zs.toArray _ hH (by simpa using hsl) j (by simpa [hsl] using hj),hget (by omega)]
   have hcell2:∀ a:Addr,a.block < w.heap.size→(a.block≠l.block∨a.off < l.off∨l.off+zs.length≤a.off)→w'.cell? a=w.cell? a:=fun a ha hx=>by
    rw [hw,cell?_grow _ _ _ (by simpa using ha),putRow_ahead,cell?_ahead,cell?_putRow_other _ _ _ _ _ _ (by simpa [hsl] using hx)]
   have hfrz:∀ a:Addr,a.block < w.heap.size→w'.frozen? a=w.frozen? a:=fun a ha=>by
    rw [hw,frozen?_grow _ _ _ (by simpa using ha),putRow_ahead,frozen?_ahead,frozen?_putRow]
   have hheap:∀ b,b < w.heap.size→b≠l.block→w'.heap[b]? = w.heap[b]? := fun b hb hne=>by
    rw [hw,heap_grow_old _ _ (by simpa using hb)]
    simp only [putRow,mapBlock,heap_ahead,Array.getElem?_modify]
    rw [if_neg (Ne.symm hne)]
   have c1:Chg w ι H r q g l w':=⟨by rw [hw];rfl,by rw [hw];rfl,by rw [hw];rfl,by rw [hw];simp,fun b hb hn=>hheap b hb (fun hbe=>hn ⟨1,_,g,l,hr,hl,hcap,hbe.symm⟩),fun hpos=>.inl ⟨1,_,g,l,hr,hl,hpos,rfl⟩,hsame,fun g2 l2 h2=>rel.gen r q _ _ _ hr g2 l2 h2⟩
   have hfz:FzOk w' l.block:=by
    have h1:FzOk (putRow (Value.int .i64) (Sort.ahead w n) l.block l.off (zcm zs).toArray) l.block:=zwn (((ok.plain hmx).fz (by rw [← hsz];exact hcap)).of_heap rfl)
    rw [hw]
    exact h1.of_heap (heap_grow_old _ _ (by simpa using hblk))
   refine ⟨_,_,_,_,_,he,c1.step (.inl ⟨_,_,hr⟩) rel (rel.idx _ _ _ _ hl) (Nat.le_refl _) (.mk' ok.hsz (by have:=(ok.plain hmx).len;simp only [List.length_map] at this ⊢;omega) hmx (fun k hk=>?_) (fun _=>hfz) (fun i c h=>?_) (fun i c' j a h1 h2=>?_)),Nat.le_refl _,nil,rfl⟩
   ·
    rw [hfrz _ hblk]
    refine ⟨?_,((ok.plain hmx).there k hk).2⟩
    by_cases hk2:k < zs.length
    · rw [hcell k hk2];rfl
    ·
     rw [hcell2 _ hblk (.inr (.inr (by simp only;omega)))]
     exact ((ok.plain hmx).there k hk).1
   ·
    rw [List.getElem?_map] at h
    obtain ⟨z,_,rfl⟩:=Option.map_eq_some_iff.1 h
    rfl
   ·
    rw [List.getElem?_map] at h1
    obtain ⟨z,hz,rfl⟩:=Option.map_eq_some_iff.1 h1
    match j with
    |
     0 =>
     cases h2
     have hi:i < zs.length:=by rw [← hsl];exact (List.getElem?_eq_some_iff.1 hz).1
     refine ⟨.int .i64 z,?_,rfl, .int _ _ _ ?_⟩
     ·
      simp only [Nat.mul_one,Nat.add_zero]
      rw [hcell i hi,List.getD_eq_getElem?_getD,hz]
      rfl
     ·
      obtain ⟨k,hk,hke⟩:=List.mem_iff_getElem.1 ((z8 zs).mem_iff.1 (List.mem_of_getElem? hz))
      have:=(hin k hk).2
      simp only [List.getD,List.getElem?_eq_getElem hk,Option.getD_some] at this
      rw [hke] at this
      exact this
    | j+1=>cases h2
end
end Go.Ab
