/-
  Part 10 of the proof: how the calls of this program run, over values instead of memory, and what each function computes.
-/
import Derived.KernelRfl
import Derived.Test.YtdhlfajcofgpkaaGreatKi
set_option maxRecDepth 100000
set_option linter.unusedVariables false
set_option linter.unusedSimpArgs false
set_option linter.unnecessarySimpa false
set_option linter.unusedSectionVars false
namespace Go.Ab
open Go.RowKit Go.Proofs
theorem zpa (l:List Int) (n:Int):zz Tryz.prog zkw [za l, .int .i64 n] (·=.bool (decide (n∈l))):=by
 refine fn_x zvV rfl ?_
 unfold zo4
 have hB:=hBig
 (repeat first | simp (disch:=try exact dis1) only [evD,Nat.reduceBEq,Nat.reduceAdd,Nat.reduceLeDiff,za] | with_reducible intro _ | ((with_reducible apply And.intro);omega))
 refine zg (fun i:Nat=>([(0,za l),(1, .int .i64 n),(5, .int .i64 i)],[])) 0 (fun i=>i≤l.length∧n∉l.take i) (fun i=>l.length - i) 0 ⟨Nat.zero_le _,by simp⟩ (Ent.tab [] [] rfl (by (try simp only [evWB,Nat.reduceBEq,Nat.reduceAdd,Nat.reduceSub,Nat.reduceLeDiff,Nat.reduceLT,implies_true,za])<;>exact fin2) (by (try simp only [evWB,Nat.reduceBEq,Nat.reduceAdd,Nat.reduceSub,Nat.reduceLeDiff,Nat.reduceLT,implies_true,za])<;>exact fin2)) ?_
 rintro i ⟨hi,hn⟩ wf
 unfold zkc
 by_cases hil:i < l.length
 ·
  have hgl:=zp (f:=cI) (d:=[]) hil
  by_cases he:l[i]=n
  ·
   have hm:n∈l:=by rw [← he];exact List.getElem_mem hil
   rw [decide_eq_true hm]
   (repeat first | simp (disch:=try exact dis1) only [evD,Nat.reduceBEq,Nat.reduceAdd,Nat.reduceLeDiff,dT,za,hgl,zln] | with_reducible intro _ | ((with_reducible apply And.intro);omega))
   exact ⟨_, .bool _ _,rfl⟩
  ·
   (repeat first | simp (disch:=try exact dis1) only [evD,Nat.reduceBEq,Nat.reduceAdd,Nat.reduceLeDiff,dT,dF,za,hgl] | with_reducible intro _ | ((with_reducible apply And.intro);omega))
   refine ⟨i+1,⟨by omega,?_⟩,by omega,Ent.keep rfl fin5⟩
   rw [List.take_add_one,List.getElem?_eq_getElem hil]
   simp only [Option.toList_some,List.mem_append,List.mem_singleton,not_or]
   exact ⟨hn,fun e=>he e.symm⟩
 ·
  rw [List.take_of_length_le (by omega)] at hn
  rw [decide_eq_false hn]
  (repeat first | simp (disch:=try exact dis1) only [evD,Nat.reduceBEq,Nat.reduceAdd,Nat.reduceLeDiff,dF,za] | with_reducible intro _ | ((with_reducible apply And.intro);omega))
  unfold zkp
  (repeat first | simp (disch:=try exact dis1) only [evD,Nat.reduceBEq,Nat.reduceAdd,Nat.reduceLeDiff,zln] | with_reducible intro _ | ((with_reducible apply And.intro);omega))
  exact ⟨_, .bool _ _,rfl⟩
theorem ztL {a b:List Int} {i:Nat} (h:i < a.length):zc9 (a.take (i+1)) b=if a[i]∈b then zc9 (a.take i) b else zc9 (a.take i) b++[a[i]]:=by
 unfold zc9
 rw [List.take_add_one,List.getElem?_eq_getElem h,List.filter_append]
 by_cases hm:a[i]∈b
 · rw [if_pos hm];simp [hm]
 · rw [if_neg hm];simp [hm]
theorem zla {a b:List Int}:(zc9 a b).length≤a.length:=List.length_filter_le _ _
theorem zoF (a b:List Int) (ha:a.length≤1000000):zz Tryz.prog zg3 [za a,za b] (·=za (zc9 a b)):=by
 refine fn_x zoC rfl ?_
 unfold zjs
 have hB:=hBig
 (repeat first | simp (disch:=try exact dis1) only [evD,Nat.reduceBEq,Nat.reduceAdd,Nat.reduceLeDiff,za] | with_reducible intro _ | ((with_reducible apply And.intro);omega))
 refine zg (fun i:Nat=>([(0,za a),(1,za b),(5, .own 0 0 0 0 (zc9 (a.take i) b).length),(6, .int .i64 i)],[(0, .row 1 ((zc9 (a.take i) b).map cI) 0)])) 1 (fun i=>i≤a.length) (fun i=>a.length - i) 0 (Nat.zero_le _) (Ent.tab [(0,1,0)] [] rfl (by (try simp only [evWB,Nat.reduceBEq,Nat.reduceAdd,Nat.reduceSub,Nat.reduceLeDiff,Nat.reduceLT,implies_true,za,List.take_zero])<;>exact fin2) (by (try simp only [evWB,Nat.reduceBEq,Nat.reduceAdd,Nat.reduceSub,Nat.reduceLeDiff,Nat.reduceLT,implies_true,za,List.take_zero])<;>exact fin2)) ?_
 rintro i hi wf
 unfold zgO
 by_cases hil:i < a.length
 ·
  have hgl:=zp (f:=cI) (d:=[]) hil
  have htk:=ztL (b:=b) hil
  have hml:=zla (a:=a.take i) (b:=b)
  rw [List.length_take] at hml
  generalize zc9 (a.take i) b=m at htk hml ⊢
  (repeat first | simp (disch:=try exact dis1) only [evD,Nat.reduceBEq,Nat.reduceAdd,Nat.reduceLeDiff,dT,za,hgl] | with_reducible intro _ | ((with_reducible apply And.intro);omega))
  refine zi (zk (zpa b a[i]) rfl) ?_
  by_cases hm:a[i]∈b
  ·
   rw [if_pos hm] at htk
   rw [decide_eq_true hm]
   (repeat first | simp (disch:=try exact dis1) only [evD,Nat.reduceBEq,Nat.reduceAdd,Nat.reduceLeDiff] | with_reducible intro _ | ((with_reducible apply And.intro);omega))
   exact ⟨i+1,by omega,by omega,(Ent.tab [(0,0,0)] [] rfl (by (try simp only [evWB,Nat.reduceBEq,Nat.reduceAdd,Nat.reduceSub,Nat.reduceLeDiff,Nat.reduceLT,implies_true,za,htk])<;>exact fin2) (by (try simp only [evWB,Nat.reduceBEq,Nat.reduceAdd,Nat.reduceSub,Nat.reduceLeDiff,Nat.reduceLT,implies_true,za,htk])<;>exact fin2))⟩
  ·
   rw [if_neg hm] at htk
   rw [decide_eq_false hm]
   (repeat first | simp (disch:=try exact dis1) only [evD,Nat.reduceBEq,Nat.reduceAdd,Nat.reduceLeDiff,dT,za,hgl] | with_reducible intro _ | ((with_reducible apply And.intro);omega))
   exact ⟨i+1,by omega,by omega,(Ent.tab [(0,0,1)] [] rfl (by (try simp only [evWB,Nat.reduceBEq,Nat.reduceAdd,Nat.reduceSub,Nat.reduceLeDiff,Nat.reduceLT,implies_true,za,htk,List.length_append,List.length_singleton,List.map_append,List.map_cons,List.map_nil])<;>exact fin2) (by (try simp only [evWB,Nat.reduceBEq,Nat.reduceAdd,Nat.reduceSub,Nat.reduceLeDiff,Nat.reduceLT,implies_true,za,htk,List.length_append,List.length_singleton,List.map_append,List.map_cons,List.map_nil])<;>exact fin2))⟩
 ·
  rw [List.take_of_length_le (by omega)]
  (repeat first | simp (disch:=try exact dis1) only [evD,Nat.reduceBEq,Nat.reduceAdd,Nat.reduceLeDiff,dF,za] | with_reducible intro _ | ((with_reducible apply And.intro);omega))
  unfold zgU
  (repeat first | simp (disch:=try exact dis1) only [evD,Nat.reduceBEq,Nat.reduceAdd,Nat.reduceLeDiff,zjq] | with_reducible intro _ | ((with_reducible apply And.intro);omega))
  have:=zla (a:=a) (b:=b)
  exact ⟨_,zai trivial rfl (by omega),rfl⟩
theorem zkQ (s:St) (a exit:List Int) (hs:zC s.e≤100000) (ha:a.length+exit.length≤800000):zz Tryz.prog zfL [.agg s.cells,za a,za exit] (·=za (zbi exit s a)):=by
 refine fn_x zp2 rfl ?_
 unfold zkS
 have hB:=hBig
 have hd:=ztr s
 have hu:=zsB s hs
 have hul:=zkg s
 have hlv:zg4 s=decide (s.op=9∨s.op=10∨s.op=5):=rfl
 unfold zbi
 generalize hR:(if zg4 s=true then zaY (zaY (zc9 a (zhV s)) (zcF s)) exit else zaY (zc9 a (zhV s)) (zcF s))=R
 generalize zhV s=ds at hd hR
 generalize zcF s=us at hu hul hR
 have hml:=zla (a:=a) (b:=ds)
 have hun:=zdT (a:=zc9 a ds) (b:=us)
 have hw:=zoF a ds (by omega)
 have hU:=zf8 (zc9 a ds) us (by omega)
 have hV:=zf8 (zaY (zc9 a ds) us) exit (by omega)
 rw [hlv] at hR
 obtain ⟨op,var,width,next,els,tgt,l,cs⟩:=s
 simp only [St.cells] at hd hu hR
 (repeat first | simp (disch:=try exact dis1) only [evD,Nat.reduceBEq,Nat.reduceAdd,Nat.reduceLeDiff,fldP,St.cells,za] | with_reducible intro _ | ((with_reducible apply And.intro);omega))
 refine zbl (zk hd rfl) ?_
 (repeat first | simp (disch:=try exact dis1) only [evD,Nat.reduceBEq,Nat.reduceAdd,Nat.reduceLeDiff] | with_reducible intro _ | ((with_reducible apply And.intro);omega))
 refine zbl (zk hw rfl) ?_
 (repeat first | simp (disch:=try exact dis1) only [evD,Nat.reduceBEq,Nat.reduceAdd,Nat.reduceLeDiff,za] | with_reducible intro _ | ((with_reducible apply And.intro);omega))
 refine zbl (zk hu rfl) ?_
 (repeat first | simp (disch:=try exact dis1) only [evD,Nat.reduceBEq,Nat.reduceAdd,Nat.reduceLeDiff] | with_reducible intro _ | ((with_reducible apply And.intro);omega))
 refine zbl (zk hU rfl) ?_
 generalize zaY (zc9 a ds) us=z at hV hR ⊢
 by_cases h9:op=9
 ·
  rw [decide_eq_true (Or.inl h9),if_pos rfl] at hR
  subst hR
  (repeat first | simp (disch:=try exact dis1) only [evD,Nat.reduceBEq,Nat.reduceAdd,Nat.reduceLeDiff,dT,fldP] | with_reducible intro _ | ((with_reducible apply And.intro);omega))
  refine zi (zk hV rfl) ?_
  (repeat first | simp (disch:=try exact dis1) only [evD,Nat.reduceBEq,Nat.reduceAdd,Nat.reduceLeDiff,zdg] | with_reducible intro _ | ((with_reducible apply And.intro);omega))
  exact ⟨_,zT rfl,rfl⟩
 by_cases h10:op=10
 ·
  rw [decide_eq_true (Or.inr (Or.inl h10)),if_pos rfl] at hR
  subst hR
  (repeat first | simp (disch:=try exact dis1) only [evD,Nat.reduceBEq,Nat.reduceAdd,Nat.reduceLeDiff,dT,dF,fldP] | with_reducible intro _ | ((with_reducible apply And.intro);omega))
  refine zi (zk hV rfl) ?_
  (repeat first | simp (disch:=try exact dis1) only [evD,Nat.reduceBEq,Nat.reduceAdd,Nat.reduceLeDiff,zdg] | with_reducible intro _ | ((with_reducible apply And.intro);omega))
  exact ⟨_,zT rfl,rfl⟩
 by_cases h5:op=5
 ·
  rw [decide_eq_true (Or.inr (Or.inr h5)),if_pos rfl] at hR
  subst hR
  (repeat first | simp (disch:=try exact dis1) only [evD,Nat.reduceBEq,Nat.reduceAdd,Nat.reduceLeDiff,dT,dF,fldP] | with_reducible intro _ | ((with_reducible apply And.intro);omega))
  refine zi (zk hV rfl) ?_
  (repeat first | simp (disch:=try exact dis1) only [evD,Nat.reduceBEq,Nat.reduceAdd,Nat.reduceLeDiff,zdg] | with_reducible intro _ | ((with_reducible apply And.intro);omega))
  exact ⟨_,zT rfl,rfl⟩
 rw [decide_eq_false (by omega),if_neg (by simp)] at hR
 subst hR
 (repeat first | simp (disch:=try exact dis1) only [evD,Nat.reduceBEq,Nat.reduceAdd,Nat.reduceLeDiff,dF,fldP,zdg] | with_reducible intro _ | ((with_reducible apply And.intro);omega))
 exact ⟨_,zT rfl,rfl⟩
theorem znr (A B:List Int):zz Tryz.prog zd7 [za A,za B] (·=.bool (decide (A=B))):=by
 refine fn_x zn0 rfl ?_
 unfold ziA
 have hB:=hBig
 by_cases hl:A.length=B.length
 ·
  (repeat first | simp (disch:=try exact dis1) only [evD,Nat.reduceBEq,Nat.reduceAdd,Nat.reduceLeDiff,dF,za] | with_reducible intro _ | ((with_reducible apply And.intro);omega))
  refine zg (fun i:Nat=>([(0,za A),(1,za B),(5, .int .i64 i)],[])) 0 (fun i=>i≤A.length∧A.take i=B.take i) (fun i=>A.length - i) 0 ⟨Nat.zero_le _,by simp⟩ (Ent.tab [] [] rfl (by (try simp only [evWB,Nat.reduceBEq,Nat.reduceAdd,Nat.reduceSub,Nat.reduceLeDiff,Nat.reduceLT,implies_true,za])<;>exact fin2) (by (try simp only [evWB,Nat.reduceBEq,Nat.reduceAdd,Nat.reduceSub,Nat.reduceLeDiff,Nat.reduceLT,implies_true,za])<;>exact fin2)) ?_
  rintro i ⟨hi,htk⟩ wf
  unfold zfT
  by_cases hil:i < A.length
  ·
   have hib:i < B.length:=by omega
   have ga:=zp (f:=cI) (d:=[]) hil
   have gb:=zp (f:=cI) (d:=[]) hib
   by_cases he:A[i]=B[i]
   ·
    (repeat first | simp (disch:=try exact dis1) only [evD,Nat.reduceBEq,Nat.reduceAdd,Nat.reduceLeDiff,dT,dF,za,ga,gb] | with_reducible intro _ | ((with_reducible apply And.intro);omega))
    exact ⟨i+1,⟨by omega,zqY htk hil hib he⟩,by omega,Ent.keep rfl fin5⟩
   ·
    have hne:A≠B:=fun e=>he (by subst e;rfl)
    rw [decide_eq_false hne]
    (repeat first | simp (disch:=try exact dis1) only [evD,Nat.reduceBEq,Nat.reduceAdd,Nat.reduceLeDiff,dT,za,ga,gb,zdt] | with_reducible intro _ | ((with_reducible apply And.intro);omega))
    exact ⟨_, .bool _ _,rfl⟩
  ·
   rw [List.take_of_length_le (by omega),List.take_of_length_le (by omega)] at htk
   rw [decide_eq_true htk]
   (repeat first | simp (disch:=try exact dis1) only [evD,Nat.reduceBEq,Nat.reduceAdd,Nat.reduceLeDiff,dF,za] | with_reducible intro _ | ((with_reducible apply And.intro);omega))
   unfold zfM
   (repeat first | simp (disch:=try exact dis1) only [evD,Nat.reduceBEq,Nat.reduceAdd,Nat.reduceLeDiff,zdt] | with_reducible intro _ | ((with_reducible apply And.intro);omega))
   exact ⟨_, .bool _ _,rfl⟩
 ·
  have hne:A≠B:=fun e=>hl (by rw [e])
  rw [decide_eq_false hne]
  (repeat first | simp (disch:=try exact dis1) only [evD,Nat.reduceBEq,Nat.reduceAdd,Nat.reduceLeDiff,dT,za,zdt] | with_reducible intro _ | ((with_reducible apply And.intro);omega))
  exact ⟨_, .bool _ _,rfl⟩
theorem zk2 (b:Bl):zz Tryz.prog zeu [.agg b.cells] (·=za (zE b.stmts)):=by
 refine fn_x zlh rfl ?_
 unfold zgu
 have hB:=hBig
 obtain ⟨ad,l⟩:=b
 simp only [Bl.cells]
 by_cases h0:l.length=0
 ·
  obtain rfl:l=[]:=List.eq_nil_of_length_eq_zero h0
  (repeat first | simp (disch:=try exact dis1) only [evD,Nat.reduceBEq,Nat.reduceAdd,Nat.reduceLeDiff,fldP,dT,List.length_nil,zdN] | with_reducible intro _ | ((with_reducible apply And.intro);omega))
  exact ⟨_,zai (l:=[]) trivial rfl (by simp only [List.length_nil];omega),rfl⟩
 have hlast:l.length - 1 < l.length:=by omega
 have hidx:(((l.length:Nat):Int) - 1).toNat=l.length - 1:=by omega
 have hg:=zp (f:=St.cells) (d:=[]) hlast
 have ht:=zjl l[l.length - 1]
 rw [zfF hlast]
 generalize l[l.length - 1]=s at hg ht ⊢
 (repeat first | simp (disch:=try exact dis1) only [evD,Nat.reduceBEq,Nat.reduceAdd,Nat.reduceLeDiff,fldP,dT,dF,hidx,hg,St.len,St.eight] | with_reducible intro _ | ((with_reducible apply And.intro);omega))
 refine zi (zk ht rfl) ?_
 (repeat first | simp (disch:=try exact dis1) only [evD,Nat.reduceBEq,Nat.reduceAdd,Nat.reduceLeDiff,zdN] | with_reducible intro _ | ((with_reducible apply And.intro);omega))
 exact ⟨_,zT rfl,rfl⟩
def zgs:ACode:=(.seq (.region [ (oN 39 (.mov (.t 9))),(oN 40 (.len (.t 39))),(oN 41 (.mov (.t 6))),(oN 42 (.mov (.t 8))),(oN 43 (.idx 1 (.t 41) (.t 42))),(oN 44 (.load false 1 (.t 43))),(oN 45 (.len (.t 44))),(oN 46 (.bin .neq (.t 40) (.t 45)))] [39,40,41,42,43,44,45]) (.cond (.t 46) (.seq (.region [ (oN 47 (.mov (.t 6))),(oN 48 (.mov (.t 8))),(oN 49 (.mov (.t 9))),(oN 50 (.idx 1 (.t 47) (.t 48))),⟨none, .store 1 (.t 50) (.t 49),none⟩] [7,9,46,47,48,49,50]) (.region [ (oN 7 (.mov (.c (.bool true))))] [])) (.skip)))
def zd2:ACode:=(.region [ (oN 23 (.mov (.t 8))),(oN 24 (.bin .sub (.t 23) (.c (.int .i64 1)))),(oN 8 (.mov (.t 24)))] [9,23,24,46])
def zgq:ACode:=.seq (.seq (.region [ (oN 21 (.mov (.t 8))),(oN 22 (.bin .geq (.t 21) (.c (.int .i64 0))))] [21]) (.cond (.t 22) (.skip) (.exit 2))) (.seq (.block 3 (.seq (.draw ( .step (oN 25 (.fldaddr 1 1 (.t 2))) ( .step (oN 27 (.mov (.t 8))) ( .step (oN 30 (.fldaddr 1 1 (.t 2))) ( .step (oN 32 (.mov (.t 8))) ( .step (oN 35 (.mov (.t 6))) ( .step (oN 37 (.mov (.t 1))) ( .alt (oN 26 (.load false 1 (.t 25))) ( .alt (oN 28 (.idx 2 (.t 26) (.t 27))) ( .alt (oN 29 (.load true 2 (.t 28))) ( .alt (oN 31 (.load false 1 (.t 30))) ( .alt (oN 33 (.idx 2 (.t 31) (.t 32))) ( .step (oN 34 (.load true 2 (.t 33))) ( .alt (oN 36 (.call z6 [(.t 34),(.t 35)])) ( .step (oN 38 (.callq zO [(.t 29),(.t 36),(.t 37)])) ( .step (oN 9 (.mov (.t 38))) ( .done))) ( .stop))) ( .stop)) ( .stop)) ( .alt (oN 31 (.load false 1 (.t 30))) ( .alt (oN 29 (.load true 2 (.t 28))) ( .alt (oN 33 (.idx 2 (.t 31) (.t 32))) ( .step (oN 34 (.load true 2 (.t 33))) ( .alt (oN 36 (.call z6 [(.t 34),(.t 35)])) ( .step (oN 38 (.callq zO [(.t 29),(.t 36),(.t 37)])) ( .step (oN 9 (.mov (.t 38))) ( .done))) ( .stop))) ( .stop)) ( .alt (oN 33 (.idx 2 (.t 31) (.t 32))) ( .step (oN 34 (.load true 2 (.t 33))) ( .alt (oN 29 (.load true 2 (.t 28))) ( .alt (oN 36 (.call z6 [(.t 34),(.t 35)])) ( .step (oN 38 (.callq zO [(.t 29),(.t 36),(.t 37)])) ( .step (oN 9 (.mov (.t 38))) ( .done))) ( .stop)) ( .alt (oN 36 (.call z6 [(.t 34),(.t 35)])) ( .step (oN 29 (.load true 2 (.t 28))) ( .step (oN 38 (.callq zO [(.t 29),(.t 36),(.t 37)])) ( .step (oN 9 (.mov (.t 38))) ( .done)))) ( .stop)))) ( .stop))) ( .stop))) ( .alt (oN 31 (.load false 1 (.t 30))) ( .alt (oN 28 (.idx 2 (.t 26) (.t 27))) ( .alt (oN 29 (.load true 2 (.t 28))) ( .alt (oN 33 (.idx 2 (.t 31) (.t 32))) ( .step (oN 34 (.load true 2 (.t 33))) ( .alt (oN 36 (.call z6 [(.t 34),(.t 35)])) ( .step (oN 38 (.callq zO [(.t 29),(.t 36),(.t 37)])) ( .step (oN 9 (.mov (.t 38))) ( .done))) ( .stop))) ( .stop)) ( .alt (oN 33 (.idx 2 (.t 31) (.t 32))) ( .step (oN 34 (.load true 2 (.t 33))) ( .alt (oN 29 (.load true 2 (.t 28))) ( .alt (oN 36 (.call z6 [(.t 34),(.t 35)])) ( .step (oN 38 (.callq zO [(.t 29),(.t 36),(.t 37)])) ( .step (oN 9 (.mov (.t 38))) ( .done))) ( .stop)) ( .alt (oN 36 (.call z6 [(.t 34),(.t 35)])) ( .step (oN 29 (.load true 2 (.t 28))) ( .step (oN 38 (.callq zO [(.t 29),(.t 36),(.t 37)])) ( .step (oN 9 (.mov (.t 38))) ( .done)))) ( .stop)))) ( .stop))) ( .alt (oN 33 (.idx 2 (.t 31) (.t 32))) ( .step (oN 34 (.load true 2 (.t 33))) ( .alt (oN 28 (.idx 2 (.t 26) (.t 27))) ( .alt (oN 29 (.load true 2 (.t 28))) ( .alt (oN 36 (.call z6 [(.t 34),(.t 35)])) ( .step (oN 38 (.callq zO [(.t 29),(.t 36),(.t 37)])) ( .step (oN 9 (.mov (.t 38))) ( .done))) ( .stop)) ( .alt (oN 36 (.call z6 [(.t 34),(.t 35)])) ( .step (oN 29 (.load true 2 (.t 28))) ( .step (oN 38 (.callq zO [(.t 29),(.t 36),(.t 37)])) ( .step (oN 9 (.mov (.t 38))) ( .done)))) ( .stop))) ( .alt (oN 36 (.call z6 [(.t 34),(.t 35)])) ( .step (oN 28 (.idx 2 (.t 26) (.t 27))) ( .step (oN 29 (.load true 2 (.t 28))) ( .step (oN 38 (.callq zO [(.t 29),(.t 36),(.t 37)])) ( .step (oN 9 (.mov (.t 38))) ( .done))))) ( .stop)))) ( .stop))) ( .stop))) ( .alt (oN 31 (.load false 1 (.t 30))) ( .alt (oN 26 (.load false 1 (.t 25))) ( .alt (oN 28 (.idx 2 (.t 26) (.t 27))) ( .alt (oN 29 (.load true 2 (.t 28))) ( .alt (oN 33 (.idx 2 (.t 31) (.t 32))) ( .step (oN 34 (.load true 2 (.t 33))) ( .alt (oN 36 (.call z6 [(.t 34),(.t 35)])) ( .step (oN 38 (.callq zO [(.t 29),(.t 36),(.t 37)])) ( .step (oN 9 (.mov (.t 38))) ( .done))) ( .stop))) ( .stop)) ( .alt (oN 33 (.idx 2 (.t 31) (.t 32))) ( .step (oN 34 (.load true 2 (.t 33))) ( .alt (oN 29 (.load true 2 (.t 28))) ( .alt (oN 36 (.call z6 [(.t 34),(.t 35)])) ( .step (oN 38 (.callq zO [(.t 29),(.t 36),(.t 37)])) ( .step (oN 9 (.mov (.t 38))) ( .done))) ( .stop)) ( .alt (oN 36 (.call z6 [(.t 34),(.t 35)])) ( .step (oN 29 (.load true 2 (.t 28))) ( .step (oN 38 (.callq zO [(.t 29),(.t 36),(.t 37)])) ( .step (oN 9 (.mov (.t 38))) ( .done)))) ( .stop)))) ( .stop))) ( .alt (oN 33 (.idx 2 (.t 31) (.t 32))) ( .step (oN 34 (.load true 2 (.t 33))) ( .alt (oN 28 (.idx 2 (.t 26) (.t 27))) ( .alt (oN 29 (.load true 2 (.t 28))) ( .alt (oN 36 (.call z6 [(.t 34),(.t 35)])) ( .step (oN 38 (.callq zO [(.t 29),(.t 36),(.t 37)])) ( .step (oN 9 (.mov (.t 38))) ( .done))) ( .stop)) ( .alt (oN 36 (.call z6 [(.t 34),(.t 35)])) ( .step (oN 29 (.load true 2 (.t 28))) ( .step (oN 38 (.callq zO [(.t 29),(.t 36),(.t 37)])) ( .step (oN 9 (.mov (.t 38))) ( .done)))) ( .stop))) ( .alt (oN 36 (.call z6 [(.t 34),(.t 35)])) ( .step (oN 28 (.idx 2 (.t 26) (.t 27))) ( .step (oN 29 (.load true 2 (.t 28))) ( .step (oN 38 (.callq zO [(.t 29),(.t 36),(.t 37)])) ( .step (oN 9 (.mov (.t 38))) ( .done))))) ( .stop)))) ( .stop))) ( .alt (oN 33 (.idx 2 (.t 31) (.t 32))) ( .step (oN 34 (.load true 2 (.t 33))) ( .alt (oN 26 (.load false 1 (.t 25))) ( .alt (oN 28 (.idx 2 (.t 26) (.t 27))) ( .alt (oN 29 (.load true 2 (.t 28))) ( .alt (oN 36 (.call z6 [(.t 34),(.t 35)])) ( .step (oN 38 (.callq zO [(.t 29),(.t 36),(.t 37)])) ( .step (oN 9 (.mov (.t 38))) ( .done))) ( .stop)) ( .alt (oN 36 (.call z6 [(.t 34),(.t 35)])) ( .step (oN 29 (.load true 2 (.t 28))) ( .step (oN 38 (.callq zO [(.t 29),(.t 36),(.t 37)])) ( .step (oN 9 (.mov (.t 38))) ( .done)))) ( .stop))) ( .alt (oN 36 (.call z6 [(.t 34),(.t 35)])) ( .step (oN 28 (.idx 2 (.t 26) (.t 27))) ( .step (oN 29 (.load true 2 (.t 28))) ( .step (oN 38 (.callq zO [(.t 29),(.t 36),(.t 37)])) ( .step (oN 9 (.mov (.t 38))) ( .done))))) ( .stop))) ( .alt (oN 36 (.call z6 [(.t 34),(.t 35)])) ( .step (oN 26 (.load false 1 (.t 25))) ( .step (oN 28 (.idx 2 (.t 26) (.t 27))) ( .step (oN 29 (.load true 2 (.t 28))) ( .step (oN 38 (.callq zO [(.t 29),(.t 36),(.t 37)])) ( .step (oN 9 (.mov (.t 38))) ( .done)))))) ( .stop)))) ( .stop))) ( .stop))))))))) [22,25,26,27,28,29,30,31,32,33,34,35,36,37,38]) (zgs))) (zd2))
def zju:ACode:=.seq (.seq (.region [ (oN 16 (.mov (.t 7)))] [7]) (.cond (.t 16) (.skip) (.exit 0))) (.block 1 (.seq (.region [ (oN 7 (.mov (.c (.bool false))))] [16]) (.seq (.region [ (oN 17 (.fldaddr 1 1 (.t 2))),(oN 18 (.load false 1 (.t 17))),(oN 19 (.len (.t 18))),(oN 20 (.bin .sub (.t 19) (.c (.int .i64 1)))),(oN 8 (.mov (.t 20)))] [17,18,19,20]) (.block 2 (.loop zgq)))))
def zjr:ACode:=.seq (.seq (.region [ (oN 55 (.mov (.t 11))),(oN 56 (.fldaddr 1 1 (.t 2))),(oN 57 (.load false 1 (.t 56))),(oN 58 (.len (.t 57))),(oN 59 (.bin .lss (.t 55) (.t 58)))] [55,56,57,58]) (.cond (.t 59) (.skip) (.exit 4))) (.seq (.block 5 (.region [ (oN 62 (.mov (.t 10))),(oN 63 (.mov (.t 11))),(oN 64 (.fldaddr 1 1 (.t 2))),(oN 65 (.load false 1 (.t 64))),(oN 66 (.mov (.t 11))),(oN 67 (.idx 2 (.t 65) (.t 66))),(oN 68 (.load true 2 (.t 67))),(oN 69 (.mov (.t 6))),(oN 70 (.call z6 [(.t 68),(.t 69)])),(oN 71 (.idx 1 (.t 62) (.t 63))),⟨none, .store 1 (.t 71) (.t 70),none⟩] [59,62,63,64,65,66,67,68,69,70,71])) (.region [ (oN 60 (.mov (.t 11))),(oN 61 (.bin .add (.t 60) (.c (.int .i64 1)))),(oN 11 (.mov (.t 61)))] [60,61]))
def zjy:ACode:=.seq (.region [ (oN 72 (.mov (.t 6))),(oN 73 (.mov (.t 10))),(oN 4 (.mov (.t 72))),(oN 5 (.mov (.t 73)))] [2,6,10,11,72,73]) (.ret)
def zjm:ACode:=.seq (.region [ (oN 51 (.fldaddr 1 1 (.t 2))),(oN 52 (.load false 1 (.t 51))),(oN 53 (.len (.t 52))),(oN 54 (.mksl 1 24 [.nilsl] (.t 53) (.t 53))),(oN 10 (.mov (.t 54)))] [1,7,8,51,52,53,54]) (.seq (.seq (.region [ (oN 11 (.mov (.c (.int .i64 0))))] []) (.block 4 (.loop zjr))) (zjy))
def zon:ACode:=.seq (.region [ (oN 2 (.rbox (.t 0))),(oN 4 (.mknil 1)),(oN 5 (.mknil 1))] [0,4,5]) (.seq (.region [ (oN 12 (.fldaddr 1 1 (.t 2))),(oN 13 (.load false 1 (.t 12))),(oN 14 (.len (.t 13))),(oN 15 (.mksl 1 24 [.nilsl] (.t 14) (.t 14))),(oN 6 (.mov (.t 15)))] [12,13,14,15]) (.seq (.seq (.region [ (oN 7 (.mov (.c (.bool true))))] []) (.block 0 (.loop zju))) (zjm)))
def znu:List ARet:=[.tmp 4, .tmp 5]
theorem ztF:zV Tryz.prog zkW (qRoL [2] [(8,[0,1,2,3,4,5,6,7,8,9,10,12,13,14,15,16,17,18,19,20,21,22,23,24,25,26,27,28,29,30,31,32,33,34,35,36,37,38,39,40,41,42,43,44,45,46,47,48,49,50,51,52,53,54,55,56,57,58,59,60,61,62,63,64,65,66,67,68,69,70,71,72,73,74,75,76,77,78,79,80,81,82,83,84,85,86,87,88,89,90,91,92,93,94,95,96,97,98,99,100,101,102,103,104,105,106,107,108,109,110,111,112,113,114,115,116,117,118,119,120,121,122,123,124,125,126,127,128,129,130,131,132,133,134,135,136,137,138,139,140,141,142,143,144,145,146,147,148,149])])=some (zon.strip,znu,74):=by kernel_rfl
theorem zqN (b:Bl) (a exit:List Int) (hsz:∀ s∈b.stmts,zC s.e≤100000) (hl:b.stmts.length≤1000000) (hroom:∀ i,i≤b.stmts.length→(zae exit (b.stmts.drop i) a).length+exit.length≤800000) :
  zz Tryz.prog zO [.agg b.cells,za a,za exit] (·=za (zcR exit b.stmts a)):=by
 refine fn_x zrV rfl ?_
 unfold zl4
 have hB:=hBig
 obtain ⟨ad,l⟩:=b
 simp only at hsz hl hroom
 unfold zcR
 simp only [Bl.cells]
 by_cases h0:l.length=0
 ·
  rw [if_pos h0]
  (repeat first | simp (disch:=try exact dis1) only [evD,Nat.reduceBEq,Nat.reduceAdd,Nat.reduceLeDiff,fldP,dT,ziQ] | with_reducible intro _ | ((with_reducible apply And.intro);omega))
  exact ⟨_,zai (l:=[]) trivial rfl (by simp only [List.length_nil];omega),rfl⟩
 rw [if_neg h0]
 (repeat first | simp (disch:=try exact dis1) only [evD,Nat.reduceBEq,Nat.reduceAdd,Nat.reduceLeDiff,fldP,dF,za] | with_reducible intro _ | ((with_reducible apply And.intro);omega))
 have hz:zae exit (l.drop l.length) a=a:=by rw [List.drop_length];rfl
 refine zg (fun i:Nat=>([(1,za (zae exit (l.drop i) a)),(2,za exit),(3,encP 2 [.int .u32 ad,encL 8 St.cells l]),(7, .int .i64 ((i:Int) - 1))],[])) 0 (fun i=>i≤l.length) (fun i=>i) l.length (Nat.le_refl _) (by rw [hz];exact (Ent.tab [] [] rfl (by (try simp only [evWB,Nat.reduceBEq,Nat.reduceAdd,Nat.reduceSub,Nat.reduceLeDiff,Nat.reduceLT,implies_true,za])<;>exact fin2) (by (try simp only [evWB,Nat.reduceBEq,Nat.reduceAdd,Nat.reduceSub,Nat.reduceLeDiff,Nat.reduceLT,implies_true,za])<;>exact fin2))) ?_
 rintro i hi wf
 unfold zij
 rcases Nat.eq_zero_or_pos i with rfl | hp
 ·
  rw [List.drop_zero]
  (repeat first | simp (disch:=try exact dis1) only [evD,Nat.reduceBEq,Nat.reduceAdd,Nat.reduceLeDiff,dF,Int.natCast_zero] | with_reducible intro _ | ((with_reducible apply And.intro);omega))
  unfold zif
  (repeat first | simp (disch:=try exact dis1) only [evD,Nat.reduceBEq,Nat.reduceAdd,Nat.reduceLeDiff,ziQ] | with_reducible intro _ | ((with_reducible apply And.intro);omega))
  exact ⟨_,zT rfl,rfl⟩
 ·
  obtain ⟨i,rfl⟩:∃ k,i=k+1:=⟨i - 1,by omega⟩
  have hil:i < l.length:=by omega
  have hgl:=zp (f:=St.cells) (d:=[]) hil
  have ei:((i+1:Nat):Int) - 1=i:=by omega
  have hr:=hroom (i+1) (by omega)
  have hst:zae exit (l.drop i) a=zbi exit l[i] (zae exit (l.drop (i+1)) a):=by rw [List.drop_eq_getElem_cons hil];rfl
  have hb:=zkQ l[i] (zae exit (l.drop (i+1)) a) exit (hsz _ (List.getElem_mem hil)) hr
  rw [← hst] at hb
  generalize zae exit (l.drop (i+1)) a=c at hb ⊢
  (repeat first | simp (disch:=try exact dis1) only [evD,Nat.reduceBEq,Nat.reduceAdd,Nat.reduceLeDiff,ei,dT,hgl,fldP,St.len,St.eight] | with_reducible intro _ | ((with_reducible apply And.intro);omega))
  refine zi (zk hb rfl) ?_
  (repeat first | simp (disch:=try exact dis1) only [evD,Nat.reduceBEq,Nat.reduceAdd,Nat.reduceLeDiff] | with_reducible intro _ | ((with_reducible apply And.intro);omega))
  exact ⟨i,by omega,by omega,(Ent.tab [] [] rfl (by (try simp only [evWB,Nat.reduceBEq,Nat.reduceAdd,Nat.reduceSub,Nat.reduceLeDiff,Nat.reduceLT,implies_true,za])<;>exact fin2) (by (try simp only [evWB,Nat.reduceBEq,Nat.reduceAdd,Nat.reduceSub,Nat.reduceLeDiff,Nat.reduceLT,implies_true,za])<;>exact fin2))⟩
theorem zvS (b:Bl) (ins:List (List Int)) (hn:ins.length≤1000000) (ht:(zE b.stmts).length≤1000000)
  (hroom:∀ i j,i≤(zE b.stmts).length→(((zE b.stmts).take i).foldl (endT ins) []).length+(ins.getD j []).length≤1000000) :
  zad Tryz.prog z6 [.agg b.cells, .own 0 0 0 0 ins.length] [(0, .row 1 (ins.map cLL) 0)] 1
   (fun v H nx=>v=za (endB ins b.stmts)∧H=[(0, .row 1 (ins.map cLL) 0)]∧nx=1):=by
 refine zbZ (fn_x zwd rfl ?_)
 unfold zpf
 have hB:=hBig
 have hsc:=zk2 b
 unfold endB
 generalize zE b.stmts=ts at ht hroom hsc ⊢
 obtain ⟨ad,l⟩:=b
 simp only [Bl.cells] at hsc ⊢
 (repeat first | simp (disch:=try exact dis1) only [evD,Nat.reduceBEq,Nat.reduceAdd,Nat.reduceLeDiff,fldP] | with_reducible intro _ | ((with_reducible apply And.intro);omega))
 refine zi (zk hsc rfl) ?_
 (repeat first | simp (disch:=try exact dis1) only [evD,Nat.reduceBEq,Nat.reduceAdd,Nat.reduceLeDiff] | with_reducible intro _ | ((with_reducible apply And.intro);omega))
 have hml:(ins.map cLL).length=ins.length:=List.length_map _
 have hv1:∀ {H HH:AH} {σ:Nat→Nat→Option (Nat × Nat × Nat)},H.get 2 0=some (.row 1 [] 0)→Vw H HH σ (inD [2]) true (.own 2 0 0 0 0) (za ((ts.take 0).foldl (endT ins) [])):=fun h=>zai (l:=[]) rfl h (by simp [big])
 refine zg (fun i:Nat=>([(1, .own 0 0 0 0 ins.length),(5,za ((ts.take i).foldl (endT ins) [])),(6,za ts),(7, .int .i64 i)],[(0, .row 1 (ins.map cLL) 0)])) 1 (fun i=>i≤ts.length) (fun i=>ts.length - i) 0 (Nat.zero_le _) (Ent.tabB [(0,0,0)] [2] rfl rfl rfl ⟨rfl,⟨_,rfl,RowV.of_flat (zh (fun _=>rfl))⟩,trivial⟩ ⟨.own _ _ _ 0 _ _ _ _ _ rfl rfl,hv1 rfl,zT rfl, .int _ _ _,trivial⟩) ?_
 rintro i hi wf
 unfold zka
 by_cases hil:i < ts.length
 ·
  have hgl:=zp (f:=cI) (d:=[]) hil
  have hst:(ts.take (i+1)).foldl (endT ins) []=endT ins ((ts.take i).foldl (endT ins) []) ts[i]:=zh9 hil
  have hr:=fun j=>hroom i j hi
  generalize (ts.take i).foldl (endT ins) []=a at hst hr ⊢
  generalize ts[i]=t at hgl hst
  by_cases hin:0≤t∧t < ins.length
  ·
   obtain ⟨t',rfl⟩:=Int.eq_ofNat_of_zero_le hin.1
   have htl:t' < ins.length:=by omega
   have e1:endT ins a (t':Int)=zaY a ins[t']:=by unfold endT;rw [if_pos hin,List.getD_eq_getElem?_getD,Int.toNat_natCast,List.getElem?_eq_getElem htl];rfl
   rw [e1] at hst
   have hrt:=hr t'
   rw [List.getD_eq_getElem?_getD,List.getElem?_eq_getElem htl] at hrt
   have hgc:(ins.map cLL).getD t' []=[za ins[t']]:=zp (f:=cLL) (d:=[]) htl
   (repeat first | simp (disch:=try exact dis1) only [evD,Nat.reduceBEq,Nat.reduceAdd,Nat.reduceLeDiff,dT,za,hgl,hgc,hml] | with_reducible intro _ | ((with_reducible apply And.intro);omega))
   refine zi (zk (zf8 a ins[t'] hrt) rfl) ?_
   (repeat first | simp (disch:=try exact dis1) only [evD,Nat.reduceBEq,Nat.reduceAdd,Nat.reduceLeDiff] | with_reducible intro _ | ((with_reducible apply And.intro);omega))
   exact ⟨i+1,by omega,by omega,(Ent.tabB [(0,0,0)] [] rfl rfl rfl (by (try simp only [evWB,Nat.reduceBEq,Nat.reduceAdd,Nat.reduceSub,Nat.reduceLeDiff,Nat.reduceLT,implies_true,za,hst])<;>exact fin2) (by (try simp only [evWB,Nat.reduceBEq,Nat.reduceAdd,Nat.reduceSub,Nat.reduceLeDiff,Nat.reduceLT,implies_true,za,hst])<;>exact fin2))⟩
  ·
   have e1:endT ins a t=a:=if_neg hin
   rw [e1] at hst
   by_cases h0:0≤t
   ·
    have h1:¬ t < ins.length:=by omega
    (repeat first | simp (disch:=try exact dis1) only [evD,Nat.reduceBEq,Nat.reduceAdd,Nat.reduceLeDiff,dT,dF,za,hgl,hml] | with_reducible intro _ | ((with_reducible apply And.intro);omega))
    exact ⟨i+1,by omega,by omega,(Ent.tabB [(0,0,0)] [] rfl rfl rfl (by (try simp only [evWB,Nat.reduceBEq,Nat.reduceAdd,Nat.reduceSub,Nat.reduceLeDiff,Nat.reduceLT,implies_true,za,hst])<;>exact fin2) (by (try simp only [evWB,Nat.reduceBEq,Nat.reduceAdd,Nat.reduceSub,Nat.reduceLeDiff,Nat.reduceLT,implies_true,za,hst])<;>exact fin2))⟩
   ·
    (repeat first | simp (disch:=try exact dis1) only [evD,Nat.reduceBEq,Nat.reduceAdd,Nat.reduceLeDiff,dT,dF,za,hgl,hml] | with_reducible intro _ | ((with_reducible apply And.intro);omega))
    exact ⟨i+1,by omega,by omega,(Ent.tabB [(0,0,0)] [] rfl rfl rfl (by (try simp only [evWB,Nat.reduceBEq,Nat.reduceAdd,Nat.reduceSub,Nat.reduceLeDiff,Nat.reduceLT,implies_true,za,hst])<;>exact fin2) (by (try simp only [evWB,Nat.reduceBEq,Nat.reduceAdd,Nat.reduceSub,Nat.reduceLeDiff,Nat.reduceLT,implies_true,za,hst])<;>exact fin2))⟩
 ·
  rw [List.take_of_length_le (by omega)]
  (repeat first | simp (disch:=try exact dis1) only [evD,Nat.reduceBEq,Nat.reduceAdd,Nat.reduceLeDiff,dF,za] | with_reducible intro _ | ((with_reducible apply And.intro);omega))
  unfold zkh
  (repeat first | simp (disch:=try exact dis1) only [evD,Nat.reduceBEq,Nat.reduceAdd,Nat.reduceLeDiff,zpq] | with_reducible intro _ | ((with_reducible apply And.intro);omega))
  exact ⟨za (ts.foldl (endT ins) []),[(0, .row 1 (ins.map cLL) 0)],1,(Ent.tabB [(0,0,0)] [] rfl rfl rfl (by (try simp only [evWB,Nat.reduceBEq,Nat.reduceAdd,Nat.reduceSub,Nat.reduceLeDiff,Nat.reduceLT,implies_true,za])<;>exact fin2) (by (try simp only [evWB,Nat.reduceBEq,Nat.reduceAdd,Nat.reduceSub,Nat.reduceLeDiff,Nat.reduceLT,implies_true,za])<;>exact fin2)),rfl,rfl,rfl⟩
theorem zqh {U l:List Int} (hl:Asc l) (h:∀ x∈l,x∈U):l.length≤U.length:=List.Nodup.length_le_of_subset (zkO hl) h
structure FewV (exit:List Int) (bl:List Bl):Prop where
 sz:∀ b∈bl,∀ s∈b.stmts,zC s.e≤100000
 len:bl.length≤1000000
 stmts:∀ b∈bl,b.stmts.length≤1000000
 ts:∀ b∈bl,(zE b.stmts).length≤1000000
 uni:(univ exit bl).length+exit.length≤400000
theorem FewV.end {exit:List Int} {bl:List Bl} (h:FewV exit bl) {ins:List (List Int)} (hi:LInvU exit bl ins) {b:Bl} (hb:b∈bl) :
  zad Tryz.prog z6 [.agg b.cells, .own 0 0 0 0 ins.length] [(0, .row 1 (ins.map cLL) 0)] 1
   (fun v H nx=>v=za (endB ins b.stmts)∧H=[(0, .row 1 (ins.map cLL) 0)]∧nx=1):=by
 have hu:=h.uni
 refine zvS b ins (by rw [hi.len];exact h.len) (h.ts b hb) fun i j _=>?_
 have h1:=zqh (U:=univ exit bl) (zoe (ins:=ins) (ts:=(zE b.stmts).take i) (a:=[]) (by simp [Asc])) fun x hx=>by
  rcases znJ.1 hx with h2 | ⟨t,_,_,h3⟩
  · cases h2
  · exact hi.uni _ x h3
 have h2:=zqh (hi.asc j) (hi.uni j)
 omega
theorem zne {exit:List Int} {bl:List Bl} {b:Bl} (hb:b∈bl) {s:St} (hs:s∈b.stmts):∀ x∈zcF s,x∈univ exit bl:=fun x hx =>
 List.mem_append_right _ (List.mem_flatMap.2 ⟨b,hb,List.mem_flatMap.2 ⟨s,hs,hx⟩⟩)
theorem zjS {exit:List Int} {bl:List Bl} {a:List Int} (ha:∀ x∈a,x∈univ exit bl):∀ {l:List St},(∀ s∈l,∀ x∈zcF s,x∈univ exit bl)→∀ x∈zae exit l a,x∈univ exit bl
 | [],_,x,hx=>ha x hx
 |
  s::l,h,x,hx=>by
  have hx:x∈zbi exit s (zae exit l a):=hx
  rcases zcY.1 hx with ⟨h1,_⟩ | h1 | ⟨_,h1⟩
  · exact zjS ha (fun s hs=>h s (List.mem_cons_of_mem _ hs)) x h1
  · exact h s (by simp) x h1
  · exact List.mem_append_left _ h1
theorem FewV.begin {exit:List Int} {bl:List Bl} (h:FewV exit bl) {a:List Int} (ha:Asc a) (hu:∀ x∈a,x∈univ exit bl) {b:Bl} (hb:b∈bl) :
  zz Tryz.prog zO [.agg b.cells,za a,za exit] (·=za (zcR exit b.stmts a)):=by
 have h0:=h.uni
 refine zqN b a exit (h.sz b hb) (h.stmts b hb) fun i _=>?_
 have:=zqh (U:=univ exit bl) (ziX (exit:=exit) (l:=b.stmts.drop i) ha) (zjS hu fun s hs=>zne hb (List.mem_of_mem_drop hs))
 omega
theorem zr8 {exit:List Int} {bl:List Bl} {ins:List (List Int)} (hi:LInvU exit bl ins) {l:List St}:∀ x∈endB ins l,x∈univ exit bl:=fun x hx=>by
 obtain ⟨t,_,_,h3⟩:=zdi.1 hx
 exact hi.uni _ x h3
theorem renL {ρ:Nat→Nat} {l:List (List Int)} {g:Nat}:AObj.ren ρ (.row 1 (l.map cLL) g)=.row 1 (l.map cLL) g:=by
 simp only [AObj.ren]
 rw [zg2 (zh zzG)]
theorem zw3 {ins:List (List Int)} {k:Nat} {nw:List Int}:(ins.map cLL).set k [encL 1 (fun n=>[.int .i64 n]) nw]=(ins.set k nw).map cLL:=by
 rw [List.map_set]
 rfl
theorem rl_m0 {Q:QT} (exit:List Int) (bl:List Bl) (ad:Int) (ins:List (List Int)) (nw:List Int) (k:Nat) (hki:k < ins.length) (hil:ins.length=bl.length) (hlen:bl.length≤1000000) (c:Bool)
  (hfin:∀ K H nx,Ent 0 K H nx [(1,za exit),(2,encP 2 [.int .u32 ad,encL 2 Bl.cells bl]),(6, .own 0 0 0 0 bl.length),(7, .bool (if nw.length=ins[k].length then c else true)),(8, .int .i64 ((k:Int) - 1))] [(0, .row 1 ((if nw.length=ins[k].length then ins else ins.set k nw).map cLL) 0)] 1→Q .normal K H nx) :
  wpX Tryz.prog 0 zgs (zaZ 3 (seqQ Tryz.prog 0 zd2 Q)) [(1,za exit),(2,encP 2 [.int .u32 ad,encL 2 Bl.cells bl]),(6, .own 0 0 0 0 bl.length),(7, .bool c),(8, .int .i64 k),(9,za nw)] [(0, .row 1 (ins.map cLL) 0)] 2:=by
 have hB:=hBig
 have hml:(ins.map cLL).length=bl.length:=by rw [List.length_map];exact hil
 have hgi:(ins.map cLL).getD k []=[za ins[k]]:=zp (f:=cLL) (d:=[]) hki
 unfold zgs
 by_cases hq:nw.length=ins[k].length
 ·
  simp only [if_pos hq] at hfin
  (repeat first | simp (disch:=try exact dis1) only [evD,Nat.reduceBEq,Nat.reduceAdd,Nat.reduceLeDiff,za,hgi,hml,dF] | with_reducible intro _ | ((with_reducible apply And.intro);omega))
  unfold zd2
  (repeat first | simp (disch:=try exact dis1) only [evD,Nat.reduceBEq,Nat.reduceAdd,Nat.reduceLeDiff] | with_reducible intro _ | ((with_reducible apply And.intro);omega))
  refine hfin _ _ _ ?_
  exact (Ent.tab [(0,0,0)] [] rfl (by (try simp only [evWB,Nat.reduceBEq,Nat.reduceAdd,Nat.reduceSub,Nat.reduceLeDiff,Nat.reduceLT,implies_true,za])<;>exact fin2) (by (try simp only [evWB,Nat.reduceBEq,Nat.reduceAdd,Nat.reduceSub,Nat.reduceLeDiff,Nat.reduceLT,implies_true,za])<;>exact fin2))
 ·
  simp only [if_neg hq] at hfin
  (repeat first | simp (disch:=try exact dis1) only [evD,Nat.reduceBEq,Nat.reduceAdd,Nat.reduceLeDiff,za,hgi,hml,dT] | with_reducible intro _ | ((with_reducible apply And.intro);omega))
  unfold zd2
  (repeat first | simp (disch:=try exact dis1) only [evD,Nat.reduceBEq,Nat.reduceAdd,Nat.reduceLeDiff] | with_reducible intro _ | ((with_reducible apply And.intro);omega))
  refine hfin _ _ _ ?_
  exact (Ent.tab [(0,0,0)] [] rfl (by (try simp only [evWB,Nat.reduceBEq,Nat.reduceAdd,Nat.reduceSub,Nat.reduceLeDiff,Nat.reduceLT,implies_true,za,zw3])<;>exact fin2) (by (try simp only [evWB,Nat.reduceBEq,Nat.reduceAdd,Nat.reduceSub,Nat.reduceLeDiff,Nat.reduceLT,implies_true,za,zw3])<;>exact fin2))
theorem rl_l1 {Q:QT} (exit:List Int) (bl:List Bl) (ad:Int) (hf:FewV exit bl) (R ins0:List (List Int)) (h0:LInvU exit bl ins0) (hR:zdM exit bl bl.length ins0=R)
  (hfin:∀ K H nx,Ent 0 K H nx [(1,za exit),(2,encP 2 [.int .u32 ad,encL 2 Bl.cells bl]),(6, .own 0 0 0 0 bl.length),(7, .bool (decide (zaW ins0 < zaW R)))] [(0, .row 1 (R.map cLL) 0)] 1→Q .normal K H nx)
  {K:Kn} {H:AH} {nx:Nat} (hent:Ent 0 K H nx [(1,za exit),(2,encP 2 [.int .u32 ad,encL 2 Bl.cells bl]),(6, .own 0 0 0 0 bl.length),(7, .bool false),(8, .int .i64 ((bl.length:Int) - 1))] [(0, .row 1 (ins0.map cLL) 0)] 1) :
  zhW Tryz.prog 0 zgq (zaZ 2 Q) K H nx:=by
 have hB:=hBig
 have hlen:=hf.len
 refine zg (fun a:Nat × List (List Int)=>([(1,za exit),(2,encP 2 [.int .u32 ad,encL 2 Bl.cells bl]),(6, .own 0 0 0 0 bl.length),(7, .bool (decide (zaW ins0 < zaW a.2))),(8, .int .i64 ((a.1:Int) - 1))],[(0, .row 1 (a.2.map cLL) 0)])) 1
  (fun a=>a.1≤bl.length∧zdM exit bl a.1 a.2=R∧LInvU exit bl a.2∧zaW ins0≤zaW a.2) (fun a=>a.1) (bl.length,ins0) ⟨Nat.le_refl _,hR,h0,Nat.le_refl _⟩ (by rw [dF (Nat.lt_irrefl _)];exact hent) ?_
 rintro ⟨k,ins⟩ ⟨hk,hgo,hinv,htot⟩ wf
 simp only at hk hgo hinv htot
 have hil:=hinv.len
 have hml:(ins.map cLL).length=bl.length:=by rw [List.length_map];exact hil
 unfold zgq
 rcases Nat.eq_zero_or_pos k with rfl | hp
 ·
  have hgo:ins=R:=hgo
  subst hgo
  (repeat first | simp (disch:=try exact dis1) only [evD,Nat.reduceBEq,Nat.reduceAdd,Nat.reduceLeDiff,dF,Int.natCast_zero] | with_reducible intro _ | ((with_reducible apply And.intro);omega))
  refine hfin _ _ _ ?_
  exact (Ent.tab [(0,0,0)] [] rfl (by (try simp only [evWB,Nat.reduceBEq,Nat.reduceAdd,Nat.reduceSub,Nat.reduceLeDiff,Nat.reduceLT,implies_true,za])<;>exact fin2) (by (try simp only [evWB,Nat.reduceBEq,Nat.reduceAdd,Nat.reduceSub,Nat.reduceLeDiff,Nat.reduceLT,implies_true,za])<;>exact fin2))
 ·
  obtain ⟨k,rfl⟩:∃ j,k=j+1:=⟨k - 1,by omega⟩
  have hkl:k < bl.length:=by omega
  have hki:k < ins.length:=by omega
  have hgl:=zp (f:=Bl.cells) (d:=[]) hkl
  have hgi:(ins.map cLL).getD k []=[za ins[k]]:=zp (f:=cLL) (d:=[]) hki
  have ei:((k+1:Nat):Int) - 1=k:=by omega
  have hbk:(bl.map (·.stmts)).getD k []=bl[k].stmts:=zp hkl
  have hgk:ins.getD k []=ins[k]:=by rw [List.getD_eq_getElem?_getD,List.getElem?_eq_getElem hki];rfl
  have hgo:zdM exit bl k (zdS exit bl ins k)=R:=hgo
  have hst:=hinv.step hkl
  obtain ⟨ts1,ts2⟩:=hinv.total_step hkl
  have hset:=zky ins k (newB exit bl ins k) hki
  have hend:=hf.end hinv (List.getElem_mem hkl)
  have hbeg:=hf.begin (a:=endB ins bl[k].stmts) zmx (zr8 hinv) (List.getElem_mem hkl)
  have hnew:newB exit bl ins k=zcR exit bl[k].stmts (endB ins bl[k].stmts):=by unfold newB;rw [hbk]
  rw [← hnew] at hbeg
  have hcell:bl[k].cells.length=2:=rfl
  have htwo:=Bl.two bl[k]
  have hsub:=zjZ (hinv.asc k) (zi0 (exit:=exit) (g:=bl) (ins:=ins) (i:=k)) (hinv.sub k)
  rw [hgk] at hset hsub
  rw [hil] at hend
  generalize endB ins bl[k].stmts=e at hend hbeg
  unfold zdS at hgo hst ts1 ts2
  rw [hgk] at hgo hst ts1 ts2
  generalize newB exit bl ins k=nw at hbeg hgo hst ts1 ts2 hset hsub
  (repeat first | simp (disch:=try exact dis1) only [evD,Nat.reduceBEq,Nat.reduceAdd,Nat.reduceLeDiff,ei,dT,hgl,fldP,hcell,htwo] | with_reducible intro _ | ((with_reducible apply And.intro);omega))
  (repeat' with_reducible apply And.intro)
  all_goals try omega
  all_goals (refine zX [(0,0,0)] 1 _ (hend) rfl rfl fin9 fin9 ?_;rintro _ _ _ ⟨rfl,rfl,rfl⟩;(repeat first | simp (disch:=try exact dis1) only [evD,Nat.reduceBEq,Nat.reduceAdd,Nat.reduceLeDiff,renE,renL,hgl,htwo] | with_reducible intro _ | ((with_reducible apply And.intro);omega)))
  all_goals (refine zbl (zk hbeg rfl) ?_;(repeat first | simp (disch:=try exact dis1) only [evD,Nat.reduceBEq,Nat.reduceAdd,Nat.reduceLeDiff] | with_reducible intro _ | ((with_reducible apply And.intro);omega)))
  all_goals refine rl_m0 exit bl ad ins nw k hki hil hlen _ ?_
  all_goals (intro K2 H2 nx2 he)
  all_goals (by_cases hq:nw.length=ins[k].length)
  all_goals first
   | (rw [if_pos hq] at hgo;simp only [if_pos hq] at he;exact ⟨(k,ins),⟨by simp only;omega,hgo,hinv,htot⟩,by simp only;omega,he⟩)
   | (rw [if_neg hq] at hgo hst;simp only [if_neg hq] at he;rw [← dT (show zaW ins0 < zaW (ins.set k nw) by omega)] at he;exact ⟨(k,ins.set k nw),⟨by simp only;omega,hgo,hst,by simp only;omega⟩,by simp only;omega,he⟩)
structure RunL (exit:List Int) (bl:List Bl) (ins:List (List Int)) (k:Nat) (c:Bool):Prop where
 inv:LInvU exit bl ins
 fuel:zfS exit bl≤k+zaW ins
 go:fixL exit bl k ins=zaE exit bl
 done:c=false→ins=zaE exit bl
theorem RunL.next {exit:List Int} {bl:List Bl} {ins:List (List Int)} {k:Nat} (h:RunL exit bl ins k true) :
  ∃ k',RunL exit bl (zdM exit bl bl.length ins) k' (decide (zaW ins < zaW (zdM exit bl bl.length ins))) ∧
   2 * (zfS exit bl - zaW (zdM exit bl bl.length ins))+(bif decide (zaW ins < zaW (zdM exit bl bl.length ins)) then 1 else 0) < 2 * (zfS exit bl - zaW ins)+(bif true then 1 else 0):=by
 obtain ⟨i1,i2,i3⟩:=h.inv.pass (n:=bl.length) (Nat.le_refl _)
 have hb:=h.inv.bound
 have hb2:=i1.bound
 have hbd:zfS exit bl=bl.length * (univ exit bl).length+1:=rfl
 have hfu:=h.fuel
 have hgo:=h.go
 cases k with
 | zero=>omega
 | succ k =>
 rw [fixL] at hgo
 by_cases he:zaW (zdM exit bl bl.length ins)=zaW ins
 ·
  rw [if_pos he] at hgo
  obtain ⟨e1,e2⟩:=i3 he.symm
  rw [e1,dF (Nat.lt_irrefl _)]
  refine ⟨k+1,⟨h.inv,hfu,?_,fun _=>hgo⟩,?_⟩
  · rw [fixL,if_pos he];exact hgo
  · simp only [cond_true,cond_false];omega
 ·
  rw [if_neg he] at hgo
  rw [dT (show zaW ins < zaW (zdM exit bl bl.length ins) by omega)]
  refine ⟨k,⟨i1,by omega,hgo,fun hx=>by cases hx⟩,?_⟩
  simp only [cond_true]
  omega
theorem rowNil {bl:List Bl} {H HH:AH} {σ:Nat→Nat→Option (Nat × Nat × Nat)} {D:Nat→Nat→Prop}:RowV H HH σ D (List.replicate bl.length [.nilsl]) ((bl.map fun _=>([]:List Int)).map cLL):=by
 refine ⟨by simp,fun i c2 hi=>?_⟩
 simp only [List.getElem?_map,Option.map_eq_some_iff] at hi
 obtain ⟨a,⟨b,hb,rfl⟩,rfl⟩:=hi
 obtain ⟨hl,_⟩:=List.getElem?_eq_some_iff.1 hb
 refine ⟨[.nilsl],by simp [hl],rfl,fun j x y h1 h2=>?_⟩
 cases j with
 | succ j=>cases h1
 | zero=>cases h1;cases h2;exact .nil0 _ _ _
theorem ztu (g:G) (exit:List Int) (hf:FewV exit g.blocks):zz Tryz.prog zkW [.agg g.cells,za exit] (·=.tup [zcZ (zaE exit g.blocks),zcZ (zip exit g.blocks)]):=by
 refine fn_x ztF rfl ?_
 unfold zon
 have hB:=hBig
 have hlen:=hf.len
 obtain ⟨ad,bl⟩:=g
 simp only at hf hlen ⊢
 (repeat first | simp (disch:=try exact dis1) only [evD,Nat.reduceBEq,Nat.reduceAdd,Nat.reduceLeDiff,fldP,G.cells,za] | with_reducible intro _ | ((with_reducible apply And.intro);omega))
 have hcl:∀ {α:Type} {f:α→List Int},True:=trivial
 refine zg (fun a:List (List Int) × Nat × Bool=>([(1,za exit),(2,encP 2 [.int .u32 ad,encL 2 Bl.cells bl]),(6, .own 0 0 0 0 bl.length),(7, .bool a.2.2)],[(0, .row 1 (a.1.map cLL) 0)])) 1
  (fun a=>RunL exit bl a.1 a.2.1 a.2.2) (fun a=>2 * (zfS exit bl - zaW a.1)+(bif a.2.2 then 1 else 0)) (bl.map fun _=>[],zfS exit bl,true) ⟨zkE exit bl,by simp only;omega,rfl,fun h=>by cases h⟩
  (Ent.tab [(0,2,0)] [] rfl ⟨rfl,⟨_,rfl,rowNil⟩,trivial⟩ ⟨zT rfl,zT rfl, .own _ _ _ 0 _ _ _ _ _ rfl rfl, .bool _ _,trivial⟩) ?_
 rintro ⟨ins,k,c⟩ hrun wf
 simp only at hrun
 unfold zju
 cases c with
 |
  true =>
  obtain ⟨k',h1,h2⟩:=hrun.next
  (repeat first | simp (disch:=try exact dis1) only [evD,Nat.reduceBEq,Nat.reduceAdd,Nat.reduceLeDiff,fldP] | with_reducible intro _ | ((with_reducible apply And.intro);omega))
  refine rl_l1 exit bl ad hf _ ins hrun.inv rfl ?_ ?_
  ·
   intro K2 H2 nx2 he
   exact ⟨(_,k',_),h1,h2,he⟩
  · exact (Ent.tab [(0,0,0)] [] rfl (by (try simp only [evWB,Nat.reduceBEq,Nat.reduceAdd,Nat.reduceSub,Nat.reduceLeDiff,Nat.reduceLT,implies_true,za])<;>exact fin2) (by (try simp only [evWB,Nat.reduceBEq,Nat.reduceAdd,Nat.reduceSub,Nat.reduceLeDiff,Nat.reduceLT,implies_true,za])<;>exact fin2))
 |
  false =>
  have hd:=hrun.done rfl
  have hinv:=hrun.inv
  subst hd
  have hil:=hinv.len
  (repeat first | simp (disch:=try exact dis1) only [evD,Nat.reduceBEq,Nat.reduceAdd,Nat.reduceLeDiff] | with_reducible intro _ | ((with_reducible apply And.intro);omega))
  unfold zjm
  (repeat first | simp (disch:=try exact dis1) only [evD,Nat.reduceBEq,Nat.reduceAdd,Nat.reduceLeDiff,fldP] | with_reducible intro _ | ((with_reducible apply And.intro);omega))
  refine zg (fun i:Nat=>([(2,encP 2 [.int .u32 ad,encL 2 Bl.cells bl]),(6, .own 0 0 0 0 bl.length),(10, .own 1 0 0 0 bl.length),(11, .int .i64 i)],[(0, .row 1 ((zaE exit bl).map cLL) 0),(1, .row 1 (rowI (zM exit bl) bl.length i) 0)])) 2
   (fun i=>i≤bl.length) (fun i=>bl.length - i) 0 (Nat.zero_le _) (Ent.tab [(0,0,0),(1,1,0)] [] rfl (by (try simp only [evWB,Nat.reduceBEq,Nat.reduceAdd,Nat.reduceSub,Nat.reduceLeDiff,Nat.reduceLT,implies_true,← zgw])<;>exact fin6) (by (try simp only [evWB,Nat.reduceBEq,Nat.reduceAdd,Nat.reduceSub,Nat.reduceLeDiff,Nat.reduceLT,implies_true,← zgw])<;>exact fin6)) ?_
  rintro i hi wf2
  unfold zjr
  by_cases hl:i < bl.length
  ·
   have hgl:=zp (f:=Bl.cells) (d:=[]) hl
   have hcell:bl[i].cells.length=2:=rfl
   have htwo:=Bl.two bl[i]
   have hbk:(bl.map (·.stmts)).getD i []=bl[i].stmts:=zp hl
   have hend:=hf.end hinv (List.getElem_mem hl)
   have ho:endB (zaE exit bl) bl[i].stmts=zM exit bl i:=by unfold zM;rw [hbk]
   rw [ho,hil] at hend
   (repeat first | simp (disch:=try exact dis1) only [evD,Nat.reduceBEq,Nat.reduceAdd,Nat.reduceLeDiff,dT,hgl,fldP,hcell,htwo] | with_reducible intro _ | ((with_reducible apply And.intro);omega))
   refine zX [(0,0,0)] 1 _ (hend) rfl rfl fin9 fin9 ?_
   rintro _ _ _ ⟨rfl,rfl,rfl⟩
   (repeat first | simp (disch:=try exact dis1) only [evD,Nat.reduceBEq,Nat.reduceAdd,Nat.reduceLeDiff,renE,renL,zuT] | with_reducible intro _ | ((with_reducible apply And.intro);omega))
   refine ⟨⟨hl,rfl,rfl⟩,i+1,by omega,by omega,?_⟩
   exact (Ent.tab [(0,0,0),(1,1,0)] [] rfl (by (try simp only [evWB,Nat.reduceBEq,Nat.reduceAdd,Nat.reduceSub,Nat.reduceLeDiff,Nat.reduceLT,implies_true,zke])<;>exact fin6) (by (try simp only [evWB,Nat.reduceBEq,Nat.reduceAdd,Nat.reduceSub,Nat.reduceLeDiff,Nat.reduceLT,implies_true,zke])<;>exact fin6))
  ·
   obtain rfl:i=bl.length:=by omega
   (repeat first | simp (disch:=try exact dis1) only [evD,Nat.reduceBEq,Nat.reduceAdd,Nat.reduceLeDiff,dF,fldP] | with_reducible intro _ | ((with_reducible apply And.intro);omega))
   unfold zjy
   (repeat first | simp (disch:=try exact dis1) only [evD,Nat.reduceBEq,Nat.reduceAdd,Nat.reduceLeDiff,znu] | with_reducible intro _ | ((with_reducible apply And.intro);omega))
   rw [zmP]
   refine ⟨.tup [zcZ (zaE exit bl),zcZ (zip exit bl)], .tup _ _ _ rfl ?_,rfl⟩
   intro k x y h1 h2
   rcases k with _ | _ | k
   ·
    cases h1;cases h2
    have:=@zmy [(0, .row 1 ((zaE exit bl).map cLL) 0),(1, .row 1 ((zip exit bl).map cLL) 0)] [] nos allR false 0 0 0 (zaE exit bl) trivial rfl (by omega)
    rw [hil] at this
    exact this
   ·
    cases h1;cases h2
    have hol:(zip exit bl).length=bl.length:=by simp [zip]
    have:=@zmy [(0, .row 1 ((zaE exit bl).map cLL) 0),(1, .row 1 ((zip exit bl).map cLL) 0)] [] nos allR false 1 0 0 (zip exit bl) trivial rfl (by omega)
    rw [hol] at this
    exact this
   · cases h1
theorem zl6:∀ (l:List St) (h:l.length - 1 < l.length),zdD l=(zjO (l[l.length - 1]'h) && !((l.take (l.length - 1)).any zjO))
 | [],h=>by simp at h
 |
  [x],h=>by
  rw [zdD,zdD]
  simp
 |
  x::y::l,h=>by
  have ih:=zl6 (y::l) (by simp)
  rw [zdD,ih]
  simp only [List.length_cons,Nat.add_sub_cancel,List.isEmpty_cons,List.take_succ_cons,List.any_cons]
  have e:(x::y::l)[l.length+1]=(y::l)[l.length]:=rfl
  rw [e]
  cases zjO x<;>cases zjO (y::l)[l.length]<;>simp
theorem zAh {α:Type} {f:α→List AV} {H H2:AH} {σ:Nat→Nat→Option (Nat × Nat × Nat)} {D:Nat→Nat→Prop} {t:Bool} {l:List α} {sz i n z:Nat} (hi:i≤l.length) (hn:n=i) (hz:z=0) (hf:∀ a,zK (f a)=true) :
  Vw H H2 σ D t (.sl sz n (fun a j=>((l.map f).getD (z+a) []).getD j .undef)) (encL sz f (l.take i)):=by
 subst hn hz
 have e:(l.take n).length=n:=by rw [List.length_take];omega
 unfold encL
 rw [e]
 refine .slf _ _ _ _ _ (fun a j ha hj=>?_)
 have e2:(List.map f (List.take n l)).getD a []=(l.map f).getD (0+a) []:=by
  rw [Nat.zero_add,List.map_take,List.getD_eq_getElem?_getD,List.getElem?_take_of_lt ha,List.getD_eq_getElem?_getD]
 rw [e2,zp (show 0+a < l.length by omega),List.getD_eq_getElem?_getD]
 cases hx:(f l[0+a])[j]? with
 | none=>exact .undef _ _
 | some x=>exact zcp (za2 (hf _) hx)
theorem zpl (l:List St):PredT (.fn (.func zcj) []) l zjO:=⟨_,_,rfl,by kernel_rfl,rfl,fun s _=>zhw s⟩
theorem zou (t ad:Int) (l:List Bl):zz Tryz.prog zeQ [.int .i64 t,encP 2 [.int .u32 ad,encL 2 Bl.cells l]] (·=.bool (!inN l.length t)):=by
 refine fn_x zoy rfl ?_
 unfold zjw inN
 have hB:=hBig
 by_cases h0:0≤t
 ·
  by_cases h1:t < l.length
  ·
   rw [decide_eq_true ⟨h0,h1⟩]
   (repeat first | simp (disch:=try exact dis1) only [evD,Nat.reduceBEq,Nat.reduceAdd,Nat.reduceLeDiff,fldP,dT,dF,zd1] | with_reducible intro _ | ((with_reducible apply And.intro);omega))
   exact ⟨_, .bool _ _,rfl⟩
  ·
   rw [decide_eq_false (fun h=>h1 h.2)]
   (repeat first | simp (disch:=try exact dis1) only [evD,Nat.reduceBEq,Nat.reduceAdd,Nat.reduceLeDiff,fldP,dT,dF,zd1] | with_reducible intro _ | ((with_reducible apply And.intro);omega))
   exact ⟨_, .bool _ _,rfl⟩
 ·
  rw [decide_eq_false (fun h=>h0 h.1)]
  (repeat first | simp (disch:=try exact dis1) only [evD,Nat.reduceBEq,Nat.reduceAdd,Nat.reduceLeDiff,fldP,dT,dF,zd1] | with_reducible intro _ | ((with_reducible apply And.intro);omega))
  exact ⟨_, .bool _ _,rfl⟩
theorem zlJ (ad:Int) (l:List Bl) (m:List Int):PredI (.fn (.func zeQ) [encP 2 [.int .u32 ad,encL 2 Bl.cells l]]) m (fun t => !inN l.length t):=⟨_,_,rfl,by kernel_rfl,rfl,fun s _=>zou s ad l⟩
theorem zsg (g:G) (hf:fewB g) (hc:∀ b∈g.blocks,∀ s∈b.stmts,s.cases.length≤100000000):zz Tryz.prog zj3 [.agg g.cells] (·=.bool (!g.blocks.isEmpty&&g.blocks.all fun b=>zcM b.stmts g.blocks.length)):=by
 refine fn_x zrT rfl ?_
 unfold zlF
 have hB:=hBig
 obtain ⟨hb,hs⟩:=hf
 obtain ⟨ad,l⟩:=g
 simp only at hb hs hc
 simp only [G.cells]
 by_cases h0:l.length=0
 ·
  obtain rfl:l=[]:=List.eq_nil_of_length_eq_zero h0
  (repeat first | simp (disch:=try exact dis1) only [evD,Nat.reduceBEq,Nat.reduceAdd,Nat.reduceLeDiff,fldP,dT,List.length_nil,zch] | with_reducible intro _ | ((with_reducible apply And.intro);omega))
  exact ⟨_, .bool _ _,rfl⟩
 have he:l.isEmpty=false:=by cases l with | nil=>simp at h0 | cons a l=>rfl
 rw [he]
 generalize hR:(l.all fun b=>zcM b.stmts l.length)=R
 (repeat first | simp (disch:=try exact dis1) only [evD,Nat.reduceBEq,Nat.reduceAdd,Nat.reduceLeDiff,fldP,dF] | with_reducible intro _ | ((with_reducible apply And.intro);omega))
 refine zg (fun i:Nat=>([(1,encP 2 [.int .u32 ad,encL 2 Bl.cells l]),(11,encL 2 Bl.cells l),(12, .int .i64 l.length),(13, .int .i64 i)],[])) 0 (fun i=>i≤l.length∧((l.drop i).all fun b=>zcM b.stmts l.length)=R) (fun i=>l.length - i) 0 ⟨Nat.zero_le _,hR⟩ (Ent.keep rfl fin5) ?_
 rintro i ⟨hi,hgo⟩ wf
 unfold zh1
 by_cases hl:i < l.length
 ·
  have hg:(l.map Bl.cells).getD i []=[.int .u32 l[i].addr,encL 8 St.cells l[i].stmts]:=zp hl
  have hss:=zhv l[i] (hc _ (List.getElem_mem hl))
  rw [List.drop_eq_getElem_cons hl,List.all_cons] at hgo
  simp only [Bl.cells] at hss
  generalize l[i].stmts=m at hg hgo hss
  generalize l[i].addr=ad' at hg hss
  by_cases hm0:m.length=0
  ·
   obtain rfl:m=[]:=List.eq_nil_of_length_eq_zero hm0
   replace hgo:R=false:=by rw [← hgo];rfl
   subst hgo
   (repeat first | simp (disch:=try exact dis1) only [evD,Nat.reduceBEq,Nat.reduceAdd,Nat.reduceLeDiff,fldP,dT,hg,List.length_nil,zch] | with_reducible intro _ | ((with_reducible apply And.intro);omega))
   exact ⟨_, .bool _ _,rfl⟩
  have hlast:m.length - 1 < m.length:=by omega
  have hidx:(((m.length:Nat):Int) - 1).toNat=m.length - 1:=by omega
  have hme:m.isEmpty=false:=by cases m with | nil=>simp at hm0 | cons a l=>rfl
  unfold zcM at hgo
  rw [hme,zl6 m hlast] at hgo
  (repeat first | simp (disch:=try exact dis1) only [evD,Nat.reduceBEq,Nat.reduceAdd,Nat.reduceLeDiff,fldP,dT,dF,hg,hidx,zp hlast,St.len,St.eight] | with_reducible intro _ | ((with_reducible apply And.intro);omega))
  refine zi (zk (zhw m[m.length - 1]) rfl) ?_
  generalize zjO m[m.length - 1]=q at hgo
  cases q with
  |
   false =>
   replace hgo:R=false:=by rw [← hgo];rfl
   subst hgo
   (repeat first | simp (disch:=try exact dis1) only [evD,Nat.reduceBEq,Nat.reduceAdd,Nat.reduceLeDiff,zch] | with_reducible intro _ | ((with_reducible apply And.intro);omega))
   exact ⟨_, .bool _ _,rfl⟩
  |
   true =>
   (repeat first | simp (disch:=try exact dis1) only [evD,Nat.reduceBEq,Nat.reduceAdd,Nat.reduceLeDiff,fldP,zob,hidx] | with_reducible intro _ | ((with_reducible apply And.intro);omega))
   refine zi (za1 (D:=noR) (zhp (m.take (m.length - 1)) _ _ (zpl _)) (.cons (zAh (by omega) (by omega) rfl (fun _=>rfl)) (.cons (zuk (zpl (m.take (m.length - 1)))) .nil)) (.inl rfl)) ?_
   generalize (m.take (m.length - 1)).any zjO=q at hgo
   cases q with
   |
    true =>
    replace hgo:R=false:=by rw [← hgo];rfl
    subst hgo
    (repeat first | simp (disch:=try exact dis1) only [evD,Nat.reduceBEq,Nat.reduceAdd,Nat.reduceLeDiff,zch] | with_reducible intro _ | ((with_reducible apply And.intro);omega))
    exact ⟨_, .bool _ _,rfl⟩
   |
    false =>
    (repeat first | simp (disch:=try exact dis1) only [evD,Nat.reduceBEq,Nat.reduceAdd,Nat.reduceLeDiff,fldP] | with_reducible intro _ | ((with_reducible apply And.intro);omega))
    refine zi (zk hss rfl) ?_
    (repeat first | simp (disch:=try exact dis1) only [evD,Nat.reduceBEq,Nat.reduceAdd,Nat.reduceLeDiff,fldP] | with_reducible intro _ | ((with_reducible apply And.intro);omega))
    refine zi (za1 (D:=noR) (zho (zE m) _ _ (zlJ ad l _)) (.cons (zT rfl) (.cons (zuj (zlJ ad l (zE m))) .nil)) (.inl rfl)) ?_
    rw [List.all_eq_not_any_not] at hgo
    generalize ((zE m).any fun t => !inN l.length t)=q at hgo
    cases q with
    |
     true =>
     replace hgo:R=false:=by rw [← hgo];rfl
     subst hgo
     (repeat first | simp (disch:=try exact dis1) only [evD,Nat.reduceBEq,Nat.reduceAdd,Nat.reduceLeDiff,zch] | with_reducible intro _ | ((with_reducible apply And.intro);omega))
     exact ⟨_, .bool _ _,rfl⟩
    |
     false =>
     replace hgo:((l.drop (i+1)).all fun b=>zcM b.stmts l.length)=R:=by rw [← hgo];rfl
     (repeat first | simp (disch:=try exact dis1) only [evD,Nat.reduceBEq,Nat.reduceAdd,Nat.reduceLeDiff] | with_reducible intro _ | ((with_reducible apply And.intro);omega))
     exact ⟨i+1,⟨by omega,hgo⟩,by omega,(Ent.tab [] [] rfl (by (try simp only [evWB,Nat.reduceBEq,Nat.reduceAdd,Nat.reduceSub,Nat.reduceLeDiff,Nat.reduceLT,implies_true])<;>exact fin2) (by (try simp only [evWB,Nat.reduceBEq,Nat.reduceAdd,Nat.reduceSub,Nat.reduceLeDiff,Nat.reduceLT,implies_true])<;>exact fin2))⟩
 ·
  rw [List.drop_of_length_le (by omega)] at hgo
  replace hgo:R=true:=by rw [← hgo];rfl
  subst hgo
  (repeat first | simp (disch:=try exact dis1) only [evD,Nat.reduceBEq,Nat.reduceAdd,Nat.reduceLeDiff,fldP,dF] | with_reducible intro _ | ((with_reducible apply And.intro);omega))
  unfold ziy
  (repeat first | simp (disch:=try exact dis1) only [evD,Nat.reduceBEq,Nat.reduceAdd,Nat.reduceLeDiff,zch] | with_reducible intro _ | ((with_reducible apply And.intro);omega))
  exact ⟨_, .bool _ _,rfl⟩
theorem zmf (g:G) (hf:fewB g) (hc:∀ b∈g.blocks,∀ s∈b.stmts,s.cases.length≤100000000):zz Tryz.prog zfB [.agg g.cells] (·=.int .i64 (zdz g)):=by
 refine fn_x zmw rfl ?_
 unfold zhC
 have hB:=hBig
 have hsh:=zsg g hf hc
 obtain ⟨hb,hs⟩:=hf
 obtain ⟨ad,l⟩:=g
 simp only at hb hs hsh
 simp only [G.cells,zdz,zuN] at hsh ⊢
 (repeat first | simp (disch:=try exact dis1) only [evD,Nat.reduceBEq,Nat.reduceAdd,Nat.reduceLeDiff,fldP] | with_reducible intro _ | ((with_reducible apply And.intro);omega))
 refine zg (fun s:Nat × Nat=>([(1,encP 2 [.int .u32 ad,encL 2 Bl.cells l]),(3, .int .i64 s.2),(12,encL 2 Bl.cells l),(13, .int .i64 l.length),(14, .int .i64 s.1)],[])) 0 (fun s=>s.1≤l.length∧s.2=zo (l.take s.1)∧s.2≤1100 * s.1) (fun s=>l.length - s.1) (0,0) ⟨Nat.zero_le _,rfl,Nat.le_refl _⟩ (Ent.keep rfl fin5) ?_
 rintro ⟨i,n⟩ ⟨hi,hct,hn⟩ wf
 simp only at hi hn hct
 unfold zfd
 by_cases hl:i < l.length
 ·
  have hg:(l.map Bl.cells).getD i []=[.int .u32 l[i].addr,encL 8 St.cells l[i].stmts]:=zp hl
  have hsl:=hs l[i] (List.getElem_mem hl)
  (repeat first | simp (disch:=try exact dis1) only [evD,Nat.reduceBEq,Nat.reduceAdd,Nat.reduceLeDiff,fldP,dT,hg] | with_reducible intro _ | ((with_reducible apply And.intro);omega))
  exact ⟨(i+1,n+l[i].stmts.length),⟨by simp only;omega,by simp only;rw [zhh hl,hct],by simp only;omega⟩,by simp only;omega,(Ent.tab [] [] rfl (by (try simp only [evWB,Nat.reduceBEq,Nat.reduceAdd,Nat.reduceSub,Nat.reduceLeDiff,Nat.reduceLT,implies_true])<;>exact fin2) (by (try simp only [evWB,Nat.reduceBEq,Nat.reduceAdd,Nat.reduceSub,Nat.reduceLeDiff,Nat.reduceLT,implies_true])<;>exact fin2))⟩
 rw [List.take_of_length_le (by omega)] at hct
 (repeat first | simp (disch:=try exact dis1) only [evD,Nat.reduceBEq,Nat.reduceAdd,Nat.reduceLeDiff,fldP,dF] | with_reducible intro _ | ((with_reducible apply And.intro);omega))
 unfold zfn
 by_cases h256:256 < l.length
 ·
  rw [if_pos (.inl h256)]
  (repeat first | simp (disch:=try exact dis1) only [evD,Nat.reduceBEq,Nat.reduceAdd,Nat.reduceLeDiff,fldP,dT,zbo] | with_reducible intro _ | ((with_reducible apply And.intro);omega))
  exact ⟨_, .int _ _ _,rfl⟩
 by_cases h1024:1024 < n
 ·
  rw [if_pos (.inr (by omega))]
  (repeat first | simp (disch:=try exact dis1) only [evD,Nat.reduceBEq,Nat.reduceAdd,Nat.reduceLeDiff,fldP,dT,dF,zbo] | with_reducible intro _ | ((with_reducible apply And.intro);omega))
  exact ⟨_, .int _ _ _,rfl⟩
 rw [if_neg (by omega)]
 (repeat first | simp (disch:=try exact dis1) only [evD,Nat.reduceBEq,Nat.reduceAdd,Nat.reduceLeDiff,fldP,dF,zls,tab,List.getD_cons_zero,List.getD_cons_succ] | with_reducible intro _ | ((with_reducible apply And.intro);omega))
 refine zi (zk hsh rfl) ?_
 generalize (!l.isEmpty&&l.all fun b=>zcM b.stmts l.length)=q
 cases q with
 |
  false =>
  (repeat first | simp (disch:=try exact dis1) only [evD,Nat.reduceBEq,Nat.reduceAdd,Nat.reduceLeDiff,zbo] | with_reducible intro _ | ((with_reducible apply And.intro);omega))
  exact ⟨_, .int _ _ _,rfl⟩
 | true =>
 rw [if_pos rfl]
 (repeat first | simp (disch:=try exact dis1) only [evD,Nat.reduceBEq,Nat.reduceAdd,Nat.reduceLeDiff,fldP] | with_reducible intro _ | ((with_reducible apply And.intro);omega))
 refine zg (fun i:Nat=>([(36,encL 2 Bl.cells l),(37, .int .i64 l.length),(38, .int .i64 i)],[])) 0 (fun i=>i≤l.length∧zfQ (l.drop i)=zfQ l) (fun i=>l.length - i) 0 ⟨Nat.zero_le _,rfl⟩ (Ent.keep rfl fin5) ?_
 rintro i ⟨hi,hgo⟩ wf
 unfold zfy
 by_cases hl:i < l.length
 ·
  have hg:(l.map Bl.cells).getD i []=[.int .u32 l[i].addr,encL 8 St.cells l[i].stmts]:=zp hl
  have hsl:=hs l[i] (List.getElem_mem hl)
  rw [zod hl] at hgo
  (repeat first | simp (disch:=try exact dis1) only [evD,Nat.reduceBEq,Nat.reduceAdd,Nat.reduceLeDiff,fldP,dT,hg] | with_reducible intro _ | ((with_reducible apply And.intro);omega))
  generalize l[i].stmts=m at hg hgo hsl
  generalize l[i].addr=ad' at hg
  refine zg (fun j:Nat=>([(36,encL 2 Bl.cells l),(37, .int .i64 l.length),(38, .int .i64 i),(43,encL 8 St.cells m),(44, .int .i64 m.length),(45, .int .i64 j)],[])) 0 (fun j=>j≤m.length∧zdA (m.drop j)=zdA m) (fun j=>m.length - j) 0 ⟨Nat.zero_le _,rfl⟩ (Ent.tab [] [] rfl (by (try simp only [evWB,Nat.reduceBEq,Nat.reduceAdd,Nat.reduceSub,Nat.reduceLeDiff,Nat.reduceLT,implies_true])<;>exact fin2) (by (try simp only [evWB,Nat.reduceBEq,Nat.reduceAdd,Nat.reduceSub,Nat.reduceLeDiff,Nat.reduceLT,implies_true])<;>exact fin2)) ?_
  rintro j ⟨hj,hgo2⟩ wf2
  unfold zfE
  by_cases hm:j < m.length
  ·
   rw [zoa hm] at hgo2
   (repeat first | simp (disch:=try exact dis1) only [evD,Nat.reduceBEq,Nat.reduceAdd,Nat.reduceLeDiff,fldP,dT,zp hm,St.len,St.eight,St.flat] | with_reducible intro _ | ((with_reducible apply And.intro);omega))
   refine zi (zk (zna m[j]) rfl) ?_
   by_cases hx:m[j].check=0
   ·
    rw [if_neg (by omega)] at hgo2
    (repeat first | simp (disch:=try exact dis1) only [evD,Nat.reduceBEq,Nat.reduceAdd,Nat.reduceLeDiff,dF] | with_reducible intro _ | ((with_reducible apply And.intro);omega))
    exact ⟨j+1,⟨by omega,hgo2⟩,by omega,(Ent.tab [] [] rfl (by (try simp only [evWB,Nat.reduceBEq,Nat.reduceAdd,Nat.reduceSub,Nat.reduceLeDiff,Nat.reduceLT,implies_true])<;>exact fin2) (by (try simp only [evWB,Nat.reduceBEq,Nat.reduceAdd,Nat.reduceSub,Nat.reduceLeDiff,Nat.reduceLT,implies_true])<;>exact fin2))⟩
   ·
    rw [if_pos hx] at hgo2
    rw [← hgo2,if_pos hx] at hgo
    rw [← hgo]
    (repeat first | simp (disch:=try exact dis1) only [evD,Nat.reduceBEq,Nat.reduceAdd,Nat.reduceLeDiff,dT,zbo] | with_reducible intro _ | ((with_reducible apply And.intro);omega))
    exact ⟨_, .int _ _ _,rfl⟩
  ·
   rw [List.drop_of_length_le (by omega),zdA] at hgo2
   rw [← hgo2,if_neg (by omega)] at hgo
   (repeat first | simp (disch:=try exact dis1) only [evD,Nat.reduceBEq,Nat.reduceAdd,Nat.reduceLeDiff,fldP,dF] | with_reducible intro _ | ((with_reducible apply And.intro);omega))
   unfold zff
   (repeat first | simp (disch:=try exact dis1) only [evD,Nat.reduceBEq,Nat.reduceAdd,Nat.reduceLeDiff] | with_reducible intro _ | ((with_reducible apply And.intro);omega))
   exact ⟨i+1,⟨by omega,hgo⟩,by omega,Ent.keep rfl fin5⟩
 rw [List.drop_of_length_le (by omega),zfQ] at hgo
 rw [← hgo]
 (repeat first | simp (disch:=try exact dis1) only [evD,Nat.reduceBEq,Nat.reduceAdd,Nat.reduceLeDiff,fldP,dF] | with_reducible intro _ | ((with_reducible apply And.intro);omega))
 unfold zfA
 (repeat first | simp (disch:=try exact dis1) only [evD,Nat.reduceBEq,Nat.reduceAdd,Nat.reduceLeDiff,zbo] | with_reducible intro _ | ((with_reducible apply And.intro);omega))
 exact ⟨_, .int _ _ _,rfl⟩
mutual
def zgW:Ex→Bool
 | .mk op _ _ _ l=>decide (op=18)||znV l
def znV:List Ex→Bool
 | []=>false
 | x::l=>zgW x||znV l
end
theorem zj0:∀ l:List Ex,znV l=l.any zgW
 | []=>by rw [znV];rfl
 | x::l=>by rw [znV,zj0 l];rfl
theorem zlm:∀ (k:Nat) (e:Ex),zaU e≤k→zz Tryz.prog zbn [.agg (encX e)] (·=.bool (zgW e)):=by
 intro k
 induction k with
 | zero=>intro e h;obtain ⟨_,_,_,_,l⟩:=e;rw [zaU] at h;omega
 | succ k ih =>
 intro e hk
 obtain ⟨op,nn,v,w,l⟩:=e
 refine fn_x zlr rfl ?_
 unfold zgz
 have hB:=hBig
 rw [zaU] at hk
 rw [zbu,zgW,zj0]
 by_cases h1:op=18
 ·
  rw [decide_eq_true h1,Bool.true_or]
  (repeat first | simp (disch:=try exact dis1) only [evD,Nat.reduceBEq,Nat.reduceAdd,Nat.reduceLeDiff,fldP,dT,encP,zdY] | with_reducible intro _ | ((with_reducible apply And.intro);omega))
  exact ⟨_, .bool _ _,rfl⟩
 ·
  rw [decide_eq_false h1,Bool.false_or]
  have hp:PredE (.fn (.func zbn) []) l zgW:=⟨_,_,rfl,by kernel_rfl,rfl,fun s hs=>ih s (by have:=zbB hs;omega)⟩
  (repeat first | simp (disch:=try exact dis1) only [evD,Nat.reduceBEq,Nat.reduceAdd,Nat.reduceLeDiff,fldP,dF] | with_reducible intro _ | ((with_reducible apply And.intro);omega))
  refine zi (za1 (D:=noR) (zJ l _ _ hp) (.cons (zT rfl) (.cons (zcK hp) .nil)) (.inl rfl)) ?_
  (repeat first | simp (disch:=try exact dis1) only [evD,Nat.reduceBEq,Nat.reduceAdd,Nat.reduceLeDiff,zdY] | with_reducible intro _ | ((with_reducible apply And.intro);omega))
  exact ⟨_, .bool _ _,rfl⟩
theorem znn (l:List Ex):PredE (.fn (.func zbn) []) l zgW:=⟨_,_,rfl,by kernel_rfl,rfl,fun s _=>zlm _ s (Nat.le_refl _)⟩
theorem zqB:∀ (k:Nat) (e:Ex),zaU e≤k→zz Tryz.prog zhn [.agg (encX e)] (·=.bool (zgW e)):=by
 intro k
 induction k with
 | zero=>intro e h;obtain ⟨_,_,_,_,l⟩:=e;rw [zaU] at h;omega
 | succ k ih =>
 intro e hk
 obtain ⟨op,nn,v,w,l⟩:=e
 refine fn_x zri rfl ?_
 unfold zlU
 have hB:=hBig
 rw [zaU] at hk
 rw [zbu,zgW,zj0]
 (repeat first | simp (disch:=try exact dis1) only [evD,Nat.reduceBEq,Nat.reduceAdd,Nat.reduceLeDiff,fldP] | with_reducible intro _ | ((with_reducible apply And.intro);omega))
 refine zg (fun i:Nat=>([(1,encP 5 [.int .i64 op, .int .u32 nn, .int .i64 v, .int .i64 w,encL 5 encX l]),(3, .int .i64 i)],[])) 0 (fun i=>i≤l.length∧(l.drop i).any zgW=l.any zgW) (fun i=>l.length - i) 0 ⟨Nat.zero_le _,rfl⟩ (Ent.keep rfl fin5) ?_
 rintro i ⟨hi,hgo⟩ wf
 unfold zig
 by_cases hil:i < l.length
 ·
  have hm:=zbB (List.getElem_mem hil)
  rw [List.drop_eq_getElem_cons hil,List.any_cons] at hgo
  (repeat first | simp (disch:=try exact dis1) only [evD,Nat.reduceBEq,Nat.reduceAdd,Nat.reduceLeDiff,fldP,dT,zp hil,zax,zZ] | with_reducible intro _ | ((with_reducible apply And.intro);omega))
  refine zi (zk (ih l[i] (by omega)) (flX rfl)) ?_
  cases hx:zgW l[i] with
  |
   true =>
   rw [hx,Bool.true_or] at hgo
   rw [← hgo,Bool.or_true]
   (repeat first | simp (disch:=try exact dis1) only [evD,Nat.reduceBEq,Nat.reduceAdd,Nat.reduceLeDiff,zh8] | with_reducible intro _ | ((with_reducible apply And.intro);omega))
   exact ⟨_, .bool _ _,rfl⟩
  |
   false =>
   rw [hx,Bool.false_or] at hgo
   (repeat first | simp (disch:=try exact dis1) only [evD,Nat.reduceBEq,Nat.reduceAdd,Nat.reduceLeDiff] | with_reducible intro _ | ((with_reducible apply And.intro);omega))
   exact ⟨i+1,⟨by omega,hgo⟩,by omega,Ent.keep rfl fin5⟩
 ·
  rw [List.drop_of_length_le (by omega)] at hgo
  rw [← hgo,List.any_nil,Bool.or_false]
  (repeat first | simp (disch:=try exact dis1) only [evD,Nat.reduceBEq,Nat.reduceAdd,Nat.reduceLeDiff,fldP,dF] | with_reducible intro _ | ((with_reducible apply And.intro);omega))
  unfold zhZ
  (repeat first | simp (disch:=try exact dis1) only [evD,Nat.reduceBEq,Nat.reduceAdd,Nat.reduceLeDiff,fldP,zh8] | with_reducible intro _ | ((with_reducible apply And.intro);omega))
  exact ⟨_, .bool _ _,rfl⟩
def remS (s:St) (a:List Int):Bool:=decide (s.op=1)&&(!decide (s.var∈a) && !s.e.any zgW)
theorem zh3 (s:St) (a:MS):zad Tryz.prog zct [.agg s.cells, .mp 0 0] [(0, .row 3 ((setM a.1 a.2).map cm) 0)] 1
  (fun v H nx=>v=.bool (remS s a.keys)∧H=[(0, .row 3 ((setM a.1 a.2).map cm) 0)]∧nx=1):=by
 refine zbZ (fn_x ziN rfl ?_)
 unfold zeh
 have hB:=hBig
 obtain ⟨c,ps⟩:=a
 obtain ⟨op,var,width,next,els,tgt,l,cs⟩:=s
 unfold remS MS.keys
 simp only
 by_cases h1:op=1
 ·
  rw [decide_eq_true h1,Bool.true_and]
  by_cases hm:var∈ps.map (·.1)
  ·
   obtain ⟨j,hj,hje,hf⟩:=zkv hm
   rw [decide_eq_true hm]
   (repeat first | simp (disch:=try exact dis1) only [evD,Nat.reduceBEq,Nat.reduceAdd,Nat.reduceLeDiff,fldP,St.cells,za,dT,zw,hf,zbq,Bool.not_true,Bool.false_and] | with_reducible intro _ | ((with_reducible apply And.intro);omega))
   exact ⟨.bool false,_,_,(Ent.tabB [(0,0,0)] [] rfl rfl rfl (by (try simp only [evWB,Nat.reduceBEq,Nat.reduceAdd,Nat.reduceSub,Nat.reduceLeDiff,Nat.reduceLT,implies_true,zw])<;>exact fin6) (by (try simp only [evWB,Nat.reduceBEq,Nat.reduceAdd,Nat.reduceSub,Nat.reduceLeDiff,Nat.reduceLT,implies_true,zw])<;>exact fin6)),rfl,rfl,rfl⟩
  ·
   have hf:=zi5 hm
   rw [decide_eq_false hm]
   (repeat first | simp (disch:=try exact dis1) only [evD,Nat.reduceBEq,Nat.reduceAdd,Nat.reduceLeDiff,fldP,St.cells,za,dT,zw,hf] | with_reducible intro _ | ((with_reducible apply And.intro);omega))
   refine zi (za1 (D:=noR) (zJ l _ _ (znn l)) (.cons (zT rfl) (.cons (zcK (znn l)) .nil)) (.inl rfl)) ?_
   (repeat first | simp (disch:=try exact dis1) only [evD,Nat.reduceBEq,Nat.reduceAdd,Nat.reduceLeDiff,zbq,Bool.not_false,Bool.true_and] | with_reducible intro _ | ((with_reducible apply And.intro);omega))
   exact ⟨.bool (!l.any zgW),_,_,(Ent.tabB [(0,0,0)] [] rfl rfl rfl (by (try simp only [evWB,Nat.reduceBEq,Nat.reduceAdd,Nat.reduceSub,Nat.reduceLeDiff,Nat.reduceLT,implies_true,zw])<;>exact fin6) (by (try simp only [evWB,Nat.reduceBEq,Nat.reduceAdd,Nat.reduceSub,Nat.reduceLeDiff,Nat.reduceLT,implies_true,zw])<;>exact fin6)),rfl,rfl,rfl⟩
 ·
  rw [decide_eq_false h1,Bool.false_and]
  (repeat first | simp (disch:=try exact dis1) only [evD,Nat.reduceBEq,Nat.reduceAdd,Nat.reduceLeDiff,fldP,St.cells,za,dF,zw,zbq] | with_reducible intro _ | ((with_reducible apply And.intro);omega))
  exact ⟨.bool false,_,_,(Ent.tabB [(0,0,0)] [] rfl rfl rfl (by (try simp only [evWB,Nat.reduceBEq,Nat.reduceAdd,Nat.reduceSub,Nat.reduceLeDiff,Nat.reduceLT,implies_true,zw])<;>exact fin6) (by (try simp only [evWB,Nat.reduceBEq,Nat.reduceAdd,Nat.reduceSub,Nat.reduceLeDiff,Nat.reduceLT,implies_true,zw])<;>exact fin6)),rfl,rfl,rfl⟩
theorem zk1:∀ (k:Nat) (e:Ex),zaU e≤k→k≤1000000→zz Tryz.prog zcI [.agg (encX e)] (·=.agg (encX e)):=by
 intro k
 induction k with
 | zero=>intro e h;obtain ⟨_,_,_,_,l⟩:=e;rw [zaU] at h;omega
 | succ k ih =>
 intro e hk hk2
 obtain ⟨op,nn,v,w,l⟩:=e
 refine fn_x zlA rfl ?_
 unfold zgB
 have hB:=hBig
 rw [zaU] at hk
 have hll:l.length≤zC l:=zi1 l
 rw [zbu]
 (repeat first | simp (disch:=try exact dis1) only [evD,Nat.reduceBEq,Nat.reduceAdd,Nat.reduceLeDiff,fldP] | with_reducible intro _ | ((with_reducible apply And.intro);omega))
 refine zg (fun i:Nat=>([(1, .ptr 0 0 0 0 0),(2, .ptr 1 0 0 0 0),(3, .own 2 0 0 0 i),(7,encL 5 encX l),(8, .int .i64 l.length),(9, .int .i64 i)],[(0, .row 5 [[.int .i64 op, .int .u32 nn, .int .i64 v, .int .i64 w,encL 5 encX l]] 0),(1, .row 5 [[.int .i64 0, .int .u32 0, .int .i64 0, .int .i64 0, .nilsl]] 0),(2, .row 5 ((l.take i).map encX) 0)])) 3
  (fun i=>i≤l.length) (fun i=>l.length - i) 0 (Nat.zero_le _) (Ent.tab [(0,0,0),(1,1,0),(2,2,0)] [] rfl (by (try simp only [evWB,Nat.reduceBEq,Nat.reduceAdd,Nat.reduceSub,Nat.reduceLeDiff,Nat.reduceLT,implies_true,List.take_zero])<;>exact fin2) (by (try simp only [evWB,Nat.reduceBEq,Nat.reduceAdd,Nat.reduceSub,Nat.reduceLeDiff,Nat.reduceLT,implies_true,List.take_zero])<;>exact fin2)) ?_
 rintro i hi wf
 unfold zex
 by_cases hil:i < l.length
 ·
  have hm:=zbB (List.getElem_mem hil)
  have htk:(l.take (i+1)).map encX=(l.take i).map encX++[encX l[i]]:=by rw [List.take_add_one,List.getElem?_eq_getElem hil,List.map_append];rfl
  have htl:((l.take i).map encX).length=i:=by rw [List.length_map,List.length_take];omega
  generalize l.take i=T at htk htl ⊢
  have htT:(T.map encX).take i=T.map encX:=List.take_of_length_le (by omega)
  (repeat first | simp (disch:=try exact dis1) only [evD,Nat.reduceBEq,Nat.reduceAdd,Nat.reduceLeDiff,fldP,dT,zp hil,zax,zZ,zb] | with_reducible intro _ | ((with_reducible apply And.intro);omega))
  refine zi (zk (ih l[i] (by omega) (by omega)) (flX rfl)) ?_
  (repeat first | simp (disch:=try exact dis1) only [evD,Nat.reduceBEq,Nat.reduceAdd,Nat.reduceLeDiff,zax,zZ,zb,htl,htT] | with_reducible intro _ | ((with_reducible apply And.intro);omega))
  refine ⟨i+1,by omega,by omega,?_⟩
  exact (Ent.tab [(0,0,0),(1,1,0),(2,2,1)] [] rfl (by (try simp only [evWB,Nat.reduceBEq,Nat.reduceAdd,Nat.reduceSub,Nat.reduceLeDiff,Nat.reduceLT,implies_true,htk])<;>exact fin7) (by (try simp only [evWB,Nat.reduceBEq,Nat.reduceAdd,Nat.reduceSub,Nat.reduceLeDiff,Nat.reduceLT,implies_true,htk])<;>exact fin7))
 ·
  obtain rfl:i=l.length:=by omega
  rw [List.take_length]
  (repeat first | simp (disch:=try exact dis1) only [evD,Nat.reduceBEq,Nat.reduceAdd,Nat.reduceLeDiff,fldP,dF] | with_reducible intro _ | ((with_reducible apply And.intro);omega))
  unfold zeI
  (repeat first | simp (disch:=try exact dis1) only [evD,Nat.reduceBEq,Nat.reduceAdd,Nat.reduceLeDiff,fldP] | with_reducible intro _ | ((with_reducible apply And.intro);omega))
  (repeat first | simp (disch:=try exact dis1) only [evD,Nat.reduceBEq,Nat.reduceAdd,Nat.reduceLeDiff,zgT] | with_reducible intro _ | ((with_reducible apply And.intro);omega))
  refine ⟨.agg [.int .i64 op, .int .u32 nn, .int .i64 v, .int .i64 w,encL 5 encX l], .agg _ _ _ rfl (fun j a c h1 h2=>?_),rfl⟩
  match j with
  | 0=>cases h1;cases h2;exact .int _ _ _
  | 1=>cases h1;cases h2;exact .int _ _ _
  | 2=>cases h1;cases h2;exact .int _ _ _
  | 3=>cases h1;cases h2;exact .int _ _ _
  | 4=>cases h1;cases h2;exact zuU trivial rfl (by omega)
  | j+5=>cases h1
theorem zwv {H H2:AH} {σ:Nat→Nat→Option (Nat × Nat × Nat)} {D:Nat→Nat→Prop} {t:Bool} {r q g:Nat} {l:List St} (hD:D r q) (hg:H.get r q=some (.row 8 (l.map St.cells) g)) (hb:l.length≤big):Vw H H2 σ D t (.own r q g 0 l.length) (encL 8 St.cells l) :=
 zih hD hg hb fun a _ j _=>by
  rw [List.getD_eq_getElem?_getD]
  cases hx:a.cells[j]? with
  | none=>exact .undef _ _
  | some x=>exact zcp (za2 a.flat hx)
theorem zuD {H H2:AH} {σ:Nat→Nat→Option (Nat × Nat × Nat)} {D:Nat→Nat→Prop} {t:Bool} {r q g:Nat} {l:List Bl} (hD:D r q) (hg:H.get r q=some (.row 2 (l.map Bl.cells) g)) (hb:l.length≤big):Vw H H2 σ D t (.own r q g 0 l.length) (encL 2 Bl.cells l) :=
 zih hD hg hb fun a _ j _=>by
  rw [List.getD_eq_getElem?_getD]
  cases hx:a.cells[j]? with
  | none=>exact .undef _ _
  | some x=>exact zcp (za2 (show zK a.cells=true from rfl) hx)
theorem zxB {Q:QT} (ad ad2:Int) (bl:List Bl) (done:List Bl) (i:Nat) (sts:List St) (j:Nat) (op var width next els tgt:Int) (l:List Ex) (cs:List Int) (hsz:zC l≤100000)
  (hcs:cs.length≤1000000) (hj:j < sts.length) (hjl:sts.length≤1000000) (hst:sts[j]=⟨op,var,width,next,els,tgt,l,cs⟩)
  (hfin:∀ K H nx,Ent 0 K H nx [(2, .ptr 0 0 0 0 0),(3, .ptr 1 0 0 0 0),(6, .ptr 3 0 0 0 0),(16,encL 2 Bl.cells bl),(17, .int .i64 bl.length),(18, .int .i64 i),(26,encL 8 St.cells sts),(27, .int .i64 sts.length),(28, .int .i64 ((j+1:Nat):Int))]
   [(0, .row 2 [[.int .u32 0, .nilsl]] 0),(1, .row 2 [[.int .u32 ad, .own 2 0 0 0 done.length]] 0),(2, .row 2 (done.map Bl.cells) 0),(3, .row 2 [[.int .u32 ad2, .own 4 0 0 0 (j+1)]] 0),(4, .row 8 ((sts.take (j+1)).map St.cells) 0)] 5→Q .normal K H nx)
  {K:Kn} {H:AH} {nx:Nat} (hent:Ent 0 K H nx [(2, .ptr 0 0 0 0 0),(3, .ptr 1 0 0 0 0),(6, .ptr 3 0 0 0 0),(8, .ptr 5 0 0 0 0),(9, .own 6 0 0 0 0),(16,encL 2 Bl.cells bl),(17, .int .i64 bl.length),(18, .int .i64 i),(26,encL 8 St.cells sts),(27, .int .i64 sts.length),(28, .int .i64 j),(33,encL 5 encX l),(34, .int .i64 l.length),(35, .int .i64 0)]
   [(0, .row 2 [[.int .u32 0, .nilsl]] 0),(1, .row 2 [[.int .u32 ad, .own 2 0 0 0 done.length]] 0),(2, .row 2 (done.map Bl.cells) 0),(3, .row 2 [[.int .u32 ad2, .own 4 0 0 0 j]] 0),(4, .row 8 ((sts.take j).map St.cells) 0),(5, .row 8 [[.int .i64 op, .int .i64 var, .int .i64 width, .int .i64 next, .int .i64 els, .int .u32 tgt,encL 5 encX l,za cs]] 0),(6, .row 5 [] 0)] 7) :
  zhW Tryz.prog 0 zb6 (zaZ 4 (seqQ Tryz.prog 0 zci (zaZ 3 (seqQ Tryz.prog 0 zcl Q)))) K H nx:=by
 have hB:=hBig
 have hll:l.length≤zC l:=zi1 l
 refine zg (fun m:Nat=>([(2, .ptr 0 0 0 0 0),(3, .ptr 1 0 0 0 0),(6, .ptr 3 0 0 0 0),(8, .ptr 5 0 0 0 0),(9, .own 6 0 0 0 m),(16,encL 2 Bl.cells bl),(17, .int .i64 bl.length),(18, .int .i64 i),(26,encL 8 St.cells sts),(27, .int .i64 sts.length),(28, .int .i64 j),(33,encL 5 encX l),(34, .int .i64 l.length),(35, .int .i64 m)],
   [(0, .row 2 [[.int .u32 0, .nilsl]] 0),(1, .row 2 [[.int .u32 ad, .own 2 0 0 0 done.length]] 0),(2, .row 2 (done.map Bl.cells) 0),(3, .row 2 [[.int .u32 ad2, .own 4 0 0 0 j]] 0),(4, .row 8 ((sts.take j).map St.cells) 0),(5, .row 8 [[.int .i64 op, .int .i64 var, .int .i64 width, .int .i64 next, .int .i64 els, .int .u32 tgt,encL 5 encX l,za cs]] 0),(6, .row 5 ((l.take m).map encX) 0)])) 7
  (fun m=>m≤l.length) (fun m=>l.length - m) 0 (Nat.zero_le _) hent ?_
 rintro m hm wf
 unfold zb6
 by_cases hil:m < l.length
 ·
  have hmm:=zbB (List.getElem_mem hil)
  have htk:(l.take (m+1)).map encX=(l.take m).map encX++[encX l[m]]:=by rw [List.take_add_one,List.getElem?_eq_getElem hil,List.map_append];rfl
  have htl:((l.take m).map encX).length=m:=by rw [List.length_map,List.length_take];omega
  generalize l.take m=T at htk htl ⊢
  generalize sts.take j=S at *
  have htT:(T.map encX).take m=T.map encX:=List.take_of_length_le (by omega)
  (repeat first | simp (disch:=try exact dis1) only [evD,Nat.reduceBEq,Nat.reduceAdd,Nat.reduceLeDiff,fldP,dT,zp hil,zax,zZ,zb] | with_reducible intro _ | ((with_reducible apply And.intro);omega))
  refine zi (zk (zk1 (zaU l[m]) l[m] (Nat.le_refl _) (by omega)) (flX rfl)) ?_
  (repeat first | simp (disch:=try exact dis1) only [evD,Nat.reduceBEq,Nat.reduceAdd,Nat.reduceLeDiff,zax,zZ,zb,htl,htT] | with_reducible intro _ | ((with_reducible apply And.intro);omega))
  refine ⟨m+1,by omega,by omega,?_⟩
  exact (Ent.tab [(0,0,0),(1,1,0),(2,2,0),(3,3,0),(4,4,0),(5,5,0),(6,6,1)] [] rfl (by (try simp only [evWB,Nat.reduceBEq,Nat.reduceAdd,Nat.reduceSub,Nat.reduceLeDiff,Nat.reduceLT,implies_true,htk])<;>exact fin7) (by (try simp only [evWB,Nat.reduceBEq,Nat.reduceAdd,Nat.reduceSub,Nat.reduceLeDiff,Nat.reduceLT,implies_true,htk])<;>exact fin7))
 ·
  obtain rfl:m=l.length:=by omega
  rw [List.take_length]
  (repeat first | simp (disch:=try exact dis1) only [evD,Nat.reduceBEq,Nat.reduceAdd,Nat.reduceLeDiff,dF] | with_reducible intro _ | ((with_reducible apply And.intro);omega))
  unfold zci
  (repeat first | simp (disch:=try exact dis1) only [evD,Nat.reduceBEq,Nat.reduceAdd,Nat.reduceLeDiff] | with_reducible intro _ | ((with_reducible apply And.intro);omega))
  refine zX [] 0 _ (zrx cs (by omega)) rfl rfl (by (try simp only [evWB,Nat.reduceBEq,Nat.reduceAdd,Nat.reduceSub,Nat.reduceLeDiff,Nat.reduceLT,implies_true])<;>exact fin1) (by (try simp only [evWB,Nat.reduceBEq,Nat.reduceAdd,Nat.reduceSub,Nat.reduceLeDiff,Nat.reduceLT,implies_true])<;>exact fin1) ?_
  rintro _ _ _ ⟨rfl,rfl,rfl⟩
  have hl8:((sts.take j).map St.cells).length=j:=by rw [List.length_map,List.length_take];omega
  have hsj:sts.take (j+1)=sts.take j++[⟨op,var,width,next,els,tgt,l,cs⟩]:=by rw [List.take_add_one,List.getElem?_eq_getElem hj,hst];rfl
  rw [hsj] at hfin
  generalize sts.take j=S at *
  have hS8:(S.map St.cells).take j=S.map St.cells:=List.take_of_length_le (by omega)
  (repeat first | simp (disch:=try exact dis1) only [evD,Nat.reduceBEq,Nat.reduceAdd,Nat.reduceLeDiff,renI,hl8,hS8] | with_reducible intro _ | ((with_reducible apply And.intro);omega))
  unfold zcl
  (repeat first | simp (disch:=try exact dis1) only [evD,Nat.reduceBEq,Nat.reduceAdd,Nat.reduceLeDiff] | with_reducible intro _ | ((with_reducible apply And.intro);omega))
  refine hfin _ _ _ ?_
  exact (Ent.tab [(0,0,0),(1,1,0),(2,2,0),(3,3,0),(4,4,1)] [6,7] rfl (by (try simp only [evWB,Nat.reduceBEq,Nat.reduceAdd,Nat.reduceSub,Nat.reduceLeDiff,Nat.reduceLT,implies_true,List.map_append,List.map_cons,List.map_nil,St.cells])<;>exact fin7) (by (try simp only [evWB,Nat.reduceBEq,Nat.reduceAdd,Nat.reduceSub,Nat.reduceLeDiff,Nat.reduceLT,implies_true,List.map_append,List.map_cons,List.map_nil,St.cells])<;>exact fin7))
theorem zwB {Q:QT} (ad ad2:Int) (bl:List Bl) (i:Nat) (hi:i < bl.length) (hbl:bl.length≤1000000) (sts:List St) (hb:bl[i]=⟨ad2,sts⟩) (hjl:sts.length≤1000000)
  (hsz:∀ s∈sts,zC s.e≤100000∧s.cases.length≤1000000)
  (hfin:∀ K H nx,Ent 0 K H nx [(2, .ptr 0 0 0 0 0),(3, .ptr 1 0 0 0 0),(16,encL 2 Bl.cells bl),(17, .int .i64 bl.length),(18, .int .i64 ((i+1:Nat):Int))]
   [(0, .row 2 [[.int .u32 0, .nilsl]] 0),(1, .row 2 [[.int .u32 ad, .own 2 0 0 0 (i+1)]] 0),(2, .row 2 ((bl.take (i+1)).map Bl.cells) 0)] 3→Q .normal K H nx)
  {K:Kn} {H:AH} {nx:Nat} (hent:Ent 0 K H nx [(2, .ptr 0 0 0 0 0),(3, .ptr 1 0 0 0 0),(6, .ptr 3 0 0 0 0),(16,encL 2 Bl.cells bl),(17, .int .i64 bl.length),(18, .int .i64 i),(26,encL 8 St.cells sts),(27, .int .i64 sts.length),(28, .int .i64 0)]
   [(0, .row 2 [[.int .u32 0, .nilsl]] 0),(1, .row 2 [[.int .u32 ad, .own 2 0 0 0 i]] 0),(2, .row 2 ((bl.take i).map Bl.cells) 0),(3, .row 2 [[.int .u32 ad2, .own 4 0 0 0 0]] 0),(4, .row 8 [] 0)] 5) :
  zhW Tryz.prog 0 zca (zaZ 2 (seqQ Tryz.prog 0 zcb (zaZ 1 (seqQ Tryz.prog 0 zcg Q)))) K H nx:=by
 have hB:=hBig
 refine zg (fun j:Nat=>([(2, .ptr 0 0 0 0 0),(3, .ptr 1 0 0 0 0),(6, .ptr 3 0 0 0 0),(16,encL 2 Bl.cells bl),(17, .int .i64 bl.length),(18, .int .i64 i),(26,encL 8 St.cells sts),(27, .int .i64 sts.length),(28, .int .i64 j)],
   [(0, .row 2 [[.int .u32 0, .nilsl]] 0),(1, .row 2 [[.int .u32 ad, .own 2 0 0 0 i]] 0),(2, .row 2 ((bl.take i).map Bl.cells) 0),(3, .row 2 [[.int .u32 ad2, .own 4 0 0 0 j]] 0),(4, .row 8 ((sts.take j).map St.cells) 0)])) 5
  (fun j=>j≤sts.length) (fun j=>sts.length - j) 0 (Nat.zero_le _) hent ?_
 rintro j hj wf
 unfold zca
 have hdl:(bl.take i).length=i:=by rw [List.length_take];omega
 by_cases hil:j < sts.length
 ·
  obtain ⟨z1,z2⟩:=hsz _ (List.getElem_mem hil)
  have hgs:=zp (f:=St.cells) (d:=[]) hil
  have hst:sts[j]=⟨sts[j].op,sts[j].var,sts[j].width,sts[j].next,sts[j].els,sts[j].tgt,sts[j].e,sts[j].cases⟩:=rfl
  have hl0:=fun (Q:QT)=>zxB (Q:=Q) ad ad2 bl (bl.take i) i sts j sts[j].op sts[j].var sts[j].width sts[j].next sts[j].els sts[j].tgt sts[j].e sts[j].cases z1 z2 hil hjl hst
  rw [hdl] at hl0
  simp only [St.cells] at hgs
  (repeat first | simp (disch:=try exact dis1) only [evD,Nat.reduceBEq,Nat.reduceAdd,Nat.reduceLeDiff,fldP,dT,hgs] | with_reducible intro _ | ((with_reducible apply And.intro);omega))
  refine hl0 _ ?_ ?_
  ·
   intro K2 H2 nx2 he
   exact ⟨j+1,by omega,by show sts.length - (j+1) < sts.length - j;omega,he⟩
  · exact (Ent.tab [(0,0,0),(1,1,0),(2,2,0),(3,3,0),(4,4,0),(5,5,0),(6,6,0)] [] rfl (by (try simp only [evWB,Nat.reduceBEq,Nat.reduceAdd,Nat.reduceSub,Nat.reduceLeDiff,Nat.reduceLT,implies_true])<;>exact fin7) (by (try simp only [evWB,Nat.reduceBEq,Nat.reduceAdd,Nat.reduceSub,Nat.reduceLeDiff,Nat.reduceLT,implies_true])<;>exact fin7))
 ·
  obtain rfl:j=sts.length:=by omega
  rw [List.take_length]
  have hbk:bl.take (i+1)=bl.take i++[⟨ad2,sts⟩]:=by rw [List.take_add_one,List.getElem?_eq_getElem hi,hb];rfl
  rw [hbk] at hfin
  generalize bl.take i=D at *
  have hD:(D.map Bl.cells).take i=D.map Bl.cells:=List.take_of_length_le (by rw [List.length_map];omega)
  have hDl:(D.map Bl.cells).length=i:=by rw [List.length_map];omega
  (repeat first | simp (disch:=try exact dis1) only [evD,Nat.reduceBEq,Nat.reduceAdd,Nat.reduceLeDiff,dF] | with_reducible intro _ | ((with_reducible apply And.intro);omega))
  unfold zcb
  (repeat first | simp (disch:=try exact dis1) only [evD,Nat.reduceBEq,Nat.reduceAdd,Nat.reduceLeDiff,hD,hDl] | with_reducible intro _ | ((with_reducible apply And.intro);omega))
  unfold zcg
  (repeat first | simp (disch:=try exact dis1) only [evD,Nat.reduceBEq,Nat.reduceAdd,Nat.reduceLeDiff] | with_reducible intro _ | ((with_reducible apply And.intro);omega))
  refine hfin _ _ _ ?_
  exact (Ent.tab [(0,0,0),(1,1,0),(2,2,1)] [4] rfl (by (try simp only [evWB,Nat.reduceBEq,Nat.reduceAdd,Nat.reduceSub,Nat.reduceLeDiff,Nat.reduceLT,implies_true,List.map_append,List.map_cons,List.map_nil,Bl.cells])<;>exact fin7) (by (try simp only [evWB,Nat.reduceBEq,Nat.reduceAdd,Nat.reduceSub,Nat.reduceLeDiff,Nat.reduceLT,implies_true,List.map_append,List.map_cons,List.map_nil,Bl.cells])<;>exact fin7))
theorem zxl (g:G) (hbl:g.blocks.length≤1000000) (hst:∀ b∈g.blocks,b.stmts.length≤1000000) (hsz:∀ b∈g.blocks,∀ s∈b.stmts,zC s.e≤100000∧s.cases.length≤1000000) :
  zad Tryz.prog zdK [.agg g.cells] [] 0 (fun v H nx=>v=.agg [.int .u32 g.addr, .own 0 0 0 0 g.blocks.length]∧H=[(0, .row 2 (g.blocks.map Bl.cells) 0)]∧nx=1):=by
 refine zbZ (fn_x zkr rfl ?_)
 unfold zf5
 have hB:=hBig
 obtain ⟨ad,bl⟩:=g
 simp only at hbl hst hsz ⊢
 (repeat first | simp (disch:=try exact dis1) only [evD,Nat.reduceBEq,Nat.reduceAdd,Nat.reduceLeDiff,fldP,G.cells] | with_reducible intro _ | ((with_reducible apply And.intro);omega))
 refine zg (fun i:Nat=>([(2, .ptr 0 0 0 0 0),(3, .ptr 1 0 0 0 0),(16,encL 2 Bl.cells bl),(17, .int .i64 bl.length),(18, .int .i64 i)],
   [(0, .row 2 [[.int .u32 0, .nilsl]] 0),(1, .row 2 [[.int .u32 ad, .own 2 0 0 0 i]] 0),(2, .row 2 ((bl.take i).map Bl.cells) 0)])) 3
  (fun i=>i≤bl.length) (fun i=>bl.length - i) 0 (Nat.zero_le _) (Ent.tab [(0,0,0),(1,1,0)] [] rfl (by (try simp only [evWB,Nat.reduceBEq,Nat.reduceAdd,Nat.reduceSub,Nat.reduceLeDiff,Nat.reduceLT,implies_true,List.take_zero,List.map_nil])<;>exact fin2) (by (try simp only [evWB,Nat.reduceBEq,Nat.reduceAdd,Nat.reduceSub,Nat.reduceLeDiff,Nat.reduceLT,implies_true,List.take_zero,List.map_nil])<;>exact fin2)) ?_
 rintro i hi wf
 unfold zee
 by_cases hil:i < bl.length
 ·
  have hm:=List.getElem_mem hil
  have hgl:=zp (f:=Bl.cells) (d:=[]) hil
  have hl3:=fun (Q:QT)=>zwB (Q:=Q) ad bl[i].addr bl i hil hbl bl[i].stmts rfl (hst _ hm) (hsz _ hm)
  simp only [Bl.cells] at hgl
  (repeat first | simp (disch:=try exact dis1) only [evD,Nat.reduceBEq,Nat.reduceAdd,Nat.reduceLeDiff,fldP,dT,hgl] | with_reducible intro _ | ((with_reducible apply And.intro);omega))
  refine hl3 _ ?_ ?_
  ·
   intro K2 H2 nx2 he
   exact ⟨i+1,by omega,by show bl.length - (i+1) < bl.length - i;omega,he⟩
  · exact (Ent.tab [(0,0,0),(1,1,0),(2,2,0),(3,4,0)] [] rfl (by (try simp only [evWB,Nat.reduceBEq,Nat.reduceAdd,Nat.reduceSub,Nat.reduceLeDiff,Nat.reduceLT,implies_true])<;>exact fin7) (by (try simp only [evWB,Nat.reduceBEq,Nat.reduceAdd,Nat.reduceSub,Nat.reduceLeDiff,Nat.reduceLT,implies_true])<;>exact fin7))
 ·
  obtain rfl:i=bl.length:=by omega
  rw [List.take_length]
  (repeat first | simp (disch:=try exact dis1) only [evD,Nat.reduceBEq,Nat.reduceAdd,Nat.reduceLeDiff,dF] | with_reducible intro _ | ((with_reducible apply And.intro);omega))
  unfold zei
  (repeat first | simp (disch:=try exact dis1) only [evD,Nat.reduceBEq,Nat.reduceAdd,Nat.reduceLeDiff,zga] | with_reducible intro _ | ((with_reducible apply And.intro);omega))
  exact ⟨.agg [.int .u32 ad, .own 0 0 0 0 bl.length],[(0, .row 2 (bl.map Bl.cells) 0)],1,(Ent.tab [(0,2,0)] [] rfl (by (try simp only [evWB,Nat.reduceBEq,Nat.reduceAdd,Nat.reduceSub,Nat.reduceLeDiff,Nat.reduceLT,implies_true])<;>exact fin7) (by (try simp only [evWB,Nat.reduceBEq,Nat.reduceAdd,Nat.reduceSub,Nat.reduceLeDiff,Nat.reduceLT,implies_true])<;>exact fin7)),rfl,rfl,rfl⟩
def keepD (exit:List Int):List St→List Int→List St × List Int
 | [],a=>([],a)
 | s::l,a=>if remS s (keepD exit l a).2=true then keepD exit l a else (s::(keepD exit l a).1,zbi exit s (keepD exit l a).2)
def keepM (exit:List Int):List St→MS→List St × MS
 | [],a=>([],a)
 | s::l,a=>if remS s (keepM exit l a).2.keys=true then keepM exit l a else (s::(keepM exit l a).1,zdy exit s (keepM exit l a).2)
theorem zvk {s:St} {a b:List Int} (h:∀ x,x∈a↔x∈b):remS s a=remS s b:=by
 unfold remS
 rw [decide_eq_decide.2 (h s.var)]
theorem zq7 {exit:List Int} {a:MS} {e:List Int} (h:∀ x,x∈a.keys↔x∈e):∀ l:List St,(keepM exit l a).1=(keepD exit l e).1∧∀ x,x∈(keepM exit l a).2.keys↔x∈(keepD exit l e).2
 | []=>⟨rfl,h⟩
 |
  s::l=>by
  obtain ⟨h1,h2⟩:=zq7 h l
  unfold keepM keepD
  rw [zvk h2]
  split
  · exact ⟨h1,h2⟩
  · exact ⟨by rw [h1],znp h2⟩
theorem zgH {exit:List Int} {e:List Int}:∀ l:List St,((keepD exit l e).1).Sublist l
 | []=>List.Sublist.slnil
 |
  s::l=>by
  unfold keepD
  split
  · exact (zgH l).cons s
  · exact (zgH l).cons_cons s
theorem zn2 {exit:List Int} {e:MS}:∀ l:List St,((keepM exit l e).1).Sublist l
 | []=>List.Sublist.slnil
 |
  s::l=>by
  unfold keepM
  split
  · exact (zn2 l).cons s
  · exact (zn2 l).cons_cons s
theorem zuX {exit:List Int}:∀ {l:List St} {a:MS},a.ok→a.1+za7 exit.length l≤1000000→a.2.length+za7 exit.length l≤1000000 →
  (keepM exit l a).2.ok∧(keepM exit l a).2.1≤a.1+za7 exit.length l∧(keepM exit l a).2.2.length≤a.2.length+za7 exit.length l
 | [],a,h,_,_=>⟨h,by show a.1≤a.1+(0:Nat);omega,Nat.le_refl _⟩
 |
  s::l,a,h,h1,h2=>by
  have e:za7 exit.length (s::l)=zC s.e+exit.length+za7 exit.length l:=rfl
  rw [e] at h1 h2 ⊢
  obtain ⟨i1,i2,i3⟩:=zuX (exit:=exit) (l:=l) h (by omega) (by omega)
  unfold keepM
  split
  · exact ⟨i1,by omega,by omega⟩
  ·
   obtain ⟨j1,j2,j3⟩:=zt7 (exit:=exit) (s:=s) i1 (by omega) (by omega)
   exact ⟨j1,by simp only;omega,by simp only;omega⟩
def blkD (exit:List Int) (bl:List Bl) (i:Nat) (b:Bl):Bl:=⟨b.addr,(keepD exit b.stmts (zM exit bl i)).1⟩
def zbR (exit:List Int) (bl:List Bl):List Bl:=bl.mapIdx (blkD exit bl)
theorem zdP {exit:List Int} {bl:List Bl}:(zbR exit bl).length=bl.length:=by simp [zbR]
theorem zgQ {exit:List Int} {bl:List Bl} {i:Nat} (h:i < bl.length):(zbR exit bl)[i]'(by rw [zdP];exact h)=blkD exit bl i bl[i]:=by simp [zbR]
def SubB (a b:List Bl):Prop:=a.length=b.length∧∀ i (h1:i < a.length) (h2:i < b.length),a[i].addr=b[i].addr∧(a[i].stmts).Sublist b[i].stmts
theorem SubB.rfl' {a:List Bl}:SubB a a:=⟨rfl,fun _ _ _=>⟨rfl,List.Sublist.refl _⟩⟩
theorem SubB.trans {a b c:List Bl} (h:SubB a b) (k:SubB b c):SubB a c:=⟨h.1.trans k.1,fun i h1 h2=>by
 obtain ⟨x1,x2⟩:=h.2 i h1 (by have:=h.1;omega)
 obtain ⟨y1,y2⟩:=k.2 i (by have:=h.1;omega) h2
 exact ⟨x1.trans y1,x2.trans y2⟩⟩
theorem zbT {exit:List Int} {bl:List Bl}:SubB (zbR exit bl) bl:=⟨zdP,fun i h1 h2=>by rw [zgQ h2];exact ⟨rfl,zgH _⟩⟩
theorem SubB.mem {a b:List Bl} (h:SubB a b) {x:Bl} (hx:x∈a):∃ y∈b,x.addr=y.addr∧(x.stmts).Sublist y.stmts:=by
 obtain ⟨i,hi,rfl⟩:=List.mem_iff_getElem.1 hx
 have hl:=h.1
 obtain ⟨h1,h2⟩:=h.2 i hi (by omega)
 exact ⟨_,List.getElem_mem _,h1,h2⟩
theorem SubB.count:∀ {a b:List Bl},SubB a b→zo a≤zo b
 | [],[],_=>Nat.le_refl _
 | [],y::b,h=>by have:=h.1;simp at this
 | x::a,[],h=>by have:=h.1;simp at this
 |
  x::a,y::b,h=>by
  have h1:=(h.2 0 (by simp) (by simp)).2.length_le
  have h2:SubB a b:=⟨by have:=h.1;simpa using this,fun i h1 h2=>h.2 (i+1) (by simpa using h1) (by simpa using h2)⟩
  have h3:=SubB.count h2
  simp only [List.getElem_cons_zero] at h1
  simp only [zo,List.map_cons,List.sum_cons] at h3 ⊢
  omega
theorem SubB.same:∀ {a b:List Bl},SubB a b→zo a=zo b→a=b
 | [],[],_,_=>rfl
 | [],y::b,h,_=>by have:=h.1;simp at this
 | x::a,[],h,_=>by have:=h.1;simp at this
 |
  x::a,y::b,h,hc=>by
  obtain ⟨ha,hs⟩:=h.2 0 (by simp) (by simp)
  have h2:SubB a b:=⟨by have:=h.1;simpa using this,fun i h1 h2=>h.2 (i+1) (by simpa using h1) (by simpa using h2)⟩
  have h3:=h2.count
  simp only [List.getElem_cons_zero] at ha hs
  have hl:=hs.length_le
  simp only [zo,List.map_cons,List.sum_cons] at hc h3
  have e1:x.stmts=y.stmts:=hs.eq_of_length (by omega)
  rw [SubB.same h2 (by simp only [zo];omega)]
  congr 1
  obtain ⟨a1,s1⟩:=x
  obtain ⟨a2,s2⟩:=y
  simp only at ha e1
  rw [ha,e1]
theorem zw7 {k:Nat} {a b:List St} (h:a.Sublist b):za7 k a≤za7 k b:=by
 induction h with
 | slnil=>exact Nat.le_refl _
 | cons s _ ih=>show _≤zC s.e+k+_;omega
 | cons_cons s _ ih=>show zC s.e+k+_≤zC s.e+k+_;omega
structure GoodB (U exit:List Int) (bl:List Bl):Prop where
 he:∀ x∈exit,x∈U
 hu:∀ b∈bl,∀ s∈b.stmts,∀ x∈zcF s,x∈U
 hsz:∀ b∈bl,∀ s∈b.stmts,zC s.e≤100000∧s.cases.length≤100000
 cost:∀ b∈bl,2 * U.length+za7 exit.length b.stmts≤1000000
 cnt:zo bl≤1000000
 len:bl.length≤1000000
theorem zre {s:St}:(zf9 s).length≤s.cases.length+2:=by
 unfold zf9
 split
 · simp
 ·
  split
  · simp
  ·
   split
   · omega
   · simp
theorem zhX {l:List St} {n:Nat} (h:∀ s∈l,s.cases.length≤n):(zE l).length≤n+2:=by
 unfold zE
 split
 · simp
 ·
  rename_i s hs
  have:=h s (List.mem_of_getLast? hs)
  have:=zre (s:=s)
  omega
theorem ziT {bl:List Bl} {b:Bl} (h:b∈bl):b.stmts.length≤zo bl:=by
 induction bl with
 | nil=>cases h
 |
  cons x l ih =>
  simp only [zo,List.map_cons,List.sum_cons] at ih ⊢
  rcases List.mem_cons.1 h with rfl | h
  · omega
  · have:=ih h;omega
theorem GoodB.univ {U exit:List Int} {bl:List Bl} (h:GoodB U exit bl):UnivB U exit bl:=by
 refine ⟨h.he,h.hu,fun b hb s hs=>(h.hsz b hb s hs).1,h.cost,fun b hb=>⟨fun s hs=>?_,?_,?_⟩,h.len⟩
 · have:=(h.hsz b hb s hs).2;omega
 · exact Nat.le_trans (ziT hb) h.cnt
 ·
  have:=zhX (l:=b.stmts) (n:=100000) fun s hs=>(h.hsz b hb s hs).2
  omega
theorem GoodB.sub {U exit:List Int} {a b:List Bl} (h:GoodB U exit b) (k:SubB a b):GoodB U exit a:=by
 refine ⟨h.he,fun x hx s hs=>?_,fun x hx s hs=>?_,fun x hx=>?_,Nat.le_trans k.count h.cnt,by rw [k.1];exact h.len⟩
 ·
  obtain ⟨y,hy,_,h2⟩:=k.mem hx
  exact h.hu y hy s (h2.mem hs)
 ·
  obtain ⟨y,hy,_,h2⟩:=k.mem hx
  exact h.hsz y hy s (h2.mem hs)
 ·
  obtain ⟨y,hy,_,h2⟩:=k.mem hx
  have:=zw7 (k:=exit.length) h2
  have:=h.cost y hy
  omega
def zjU (exit:List Int):Nat→List Bl→List Bl
 | 0,bl=>bl
 | k+1,bl=>if zo (zbR exit bl)=zo bl then bl else zjU exit k (zbR exit bl)
theorem zr5 {exit:List Int}:∀ (k:Nat) (bl:List Bl),SubB (zjU exit k bl) bl
 | 0,bl=>SubB.rfl'
 |
  k+1,bl=>by
  unfold zjU
  split
  · exact SubB.rfl'
  · exact (zr5 k _).trans zbT
theorem zpk {exit:List Int}:∀ (k k':Nat) (bl:List Bl),zo bl < k→zo bl < k'→zjU exit k bl=zjU exit k' bl
 | 0,_,bl,h,_=>absurd h (Nat.not_lt_zero _)
 | _+1,0,bl,_,h=>absurd h (Nat.not_lt_zero _)
 |
  k+1,k'+1,bl,h,h'=>by
  unfold zjU
  split
  · rfl
  ·
   have:=(zbT (exit:=exit) (bl:=bl)).count
   exact zpk k k' _ (by omega) (by omega)
def zmr (exit:List Int) (bl:List Bl):List Bl:=zjU exit (zo bl+1) bl
abbrev LeL (a b:List Int):Prop:=∀ x∈a,x∈b
theorem LeL.trans {a b c:List Int} (h:LeL a b) (k:LeL b c):LeL a c:=fun x hx=>k x (h x hx)
theorem zgd {exit:List Int} {s:St} {a b:List Int} (h:LeL a b):LeL (zbi exit s a) (zbi exit s b):=fun x hx=>by
 rw [zcY] at hx ⊢
 rcases hx with ⟨h1,h2⟩ | h1
 · exact .inl ⟨h x h1,h2⟩
 · exact .inr h1
theorem zfr {exit:List Int}:∀ {l:List St} {a b:List Int},LeL a b→LeL (zae exit l a) (zae exit l b)
 | [],_,_,h=>h
 |
  s::l,a,b,h=>by
  show LeL (zbi exit s (zae exit l a)) (zbi exit s (zae exit l b))
  exact zgd (zfr h)
theorem ztZ {exit:List Int} {s:St} {l:List St} {a:List Int}:zae exit (s::l) a=zbi exit s (zae exit l a):=rfl
theorem zim {s:St} {a b:List Int} (h:LeL a b) (hr:remS s b=true):remS s a=true:=by
 unfold remS at hr ⊢
 simp only [Bool.and_eq_true,Bool.not_eq_true',decide_eq_true_eq,decide_eq_false_iff_not] at hr ⊢
 exact ⟨hr.1,fun hm=>hr.2.1 (h _ hm),hr.2.2⟩
theorem zpL {s:St} {a:List Int} (h:remS s a=true):s.op=1∧s.var∉a:=by
 unfold remS at h
 simp only [Bool.and_eq_true,Bool.not_eq_true',decide_eq_true_eq,decide_eq_false_iff_not] at h
 exact ⟨h.1,h.2.1⟩
theorem zlc {exit:List Int} {s:St} {a b:List Int} (h:LeL a b) (hr:s.op=1) (hn:s.var∉a):LeL a (zbi exit s b):=fun x hx=>by
 rw [zcY]
 refine .inl ⟨h x hx,fun hd=>?_⟩
 unfold zhV at hd
 rw [if_pos (.inl hr),List.mem_singleton] at hd
 exact hn (hd▸hx)
inductive SubD (exit e:List Int):List St→List St→Prop
 | nil:SubD exit e [] []
 | keep {s:St} {x y:List St}:SubD exit e x y→SubD exit e (s::x) (s::y)
 | drop {s:St} {x y:List St}:SubD exit e x y→remS s (zae exit x e)=true→SubD exit e x (s::y)
theorem SubD.refl {exit e:List Int}:∀ {l:List St},SubD exit e l l
 | []=>.nil
 | _::_=>.keep SubD.refl
theorem SubD.sub {exit e:List Int} {x y:List St} (h:SubD exit e x y):x.Sublist y:=by
 induction h with
 | nil=>exact List.Sublist.slnil
 | keep _ ih=>exact ih.cons_cons _
 | drop _ _ ih=>exact ih.cons _
theorem SubD.begin {exit e e1 e2:List Int} {x y:List St} (h:SubD exit e x y) (h1:LeL e1 e) (h2:LeL e1 e2):LeL (zae exit x e1) (zae exit y e2):=by
 induction h with
 | nil=>exact h2
 | keep _ ih=>exact zgd ih
 |
  @drop s x y _ hr ih =>
  obtain ⟨r1,r2⟩:=zpL hr
  exact zlc ih r1 fun hm=>r2 (zfr h1 _ hm)
theorem SubD.trans {exit e e2:List Int} {x y z:List St} (h:SubD exit e x y) (k:SubD exit e2 y z) (he:LeL e e2):SubD exit e x z:=by
 induction k generalizing x with
 | nil=>exact h
 |
  keep _ ih =>
  cases h with
  | keep h=>exact .keep (ih h)
  | drop h hr=>exact .drop (ih h) hr
 | drop hk hr ih=>exact .drop (ih h) (zim (h.begin (fun _ h=>h) he) hr)
theorem SubD.last {exit e:List Int} {x y:List St} (h:SubD exit e x y) (hy:∀ s,y.getLast? = some s→s.op≠1):x.getLast? = y.getLast? := by
 induction h with
 | nil=>rfl
 |
  @keep s x y h ih =>
  cases h with
  | nil=>rfl
  |
   @keep s2 x y h =>
   have:=ih (fun t ht=>hy t (by rw [List.getLast?_cons_cons];exact ht))
   rw [List.getLast?_cons_cons,List.getLast?_cons_cons]
   exact this
  |
   @drop s2 x y h hr =>
   have:=ih (fun t ht=>hy t (by rw [List.getLast?_cons_cons];exact ht))
   rw [List.getLast?_cons_cons,← this]
   cases x with
   |
    nil =>
    rw [List.getLast?_nil] at this
    exact absurd (List.getLast?_eq_none_iff.1 this.symm) (by simp)
   | cons t x=>rw [List.getLast?_cons_cons]
 |
  @drop s x y h hr ih =>
  cases y with
  | nil=>exact absurd (zpL hr).1 (hy s rfl)
  | cons t y=>rw [List.getLast?_cons_cons];exact ih (fun u hu=>hy u (by rw [List.getLast?_cons_cons];exact hu))
def zvn (exit e:List Int):List St→Prop
 | []=>True
 | s::l=>remS s (zae exit l e)=false∧zvn exit e l
theorem zgP {exit e:List Int}:∀ {l:List St},(keepD exit l e).2=zae exit (keepD exit l e).1 e
 | []=>rfl
 |
  s::l=>by
  unfold keepD
  split
  · exact zgP
  ·
   simp only
   rw [ztZ,zgP (l:=l)]
theorem zpK {exit e:List Int}:∀ {l:List St},LeL (keepD exit l e).2 (zae exit l e)
 | []=>fun _ h=>h
 |
  s::l=>by
  unfold keepD
  split
  ·
   rename_i hr
   obtain ⟨r1,r2⟩:=zpL hr
   exact zlc zpK r1 r2
  · exact zgd zpK
theorem zld {exit e ee:List Int} (he:LeL ee e):∀ {l:List St},SubD exit ee (keepD exit l e).1 l
 | []=>.nil
 |
  s::l=>by
  unfold keepD
  split
  ·
   rename_i hr
   rw [zgP] at hr
   exact .drop (zld he) (zim (zfr he) hr)
  · exact .keep (zld he)
theorem SubD.keepD {exit e ee:List Int} {x y:List St} (h:SubD exit ee x y) (hn:zvn exit ee x) (he:LeL ee e):SubD exit ee x (Go.Ab.keepD exit y e).1∧LeL (zae exit x ee) (Go.Ab.keepD exit y e).2:=by
 induction h with
 | nil=>exact ⟨.nil,he⟩
 |
  @keep s x y h ih =>
  obtain ⟨n1,n2⟩:=hn
  obtain ⟨i1,i2⟩:=ih n2
  have hr:¬ remS s (Go.Ab.keepD exit y e).2=true:=fun hr=>by
   rw [zim i2 hr] at n1
   cases n1
  unfold Go.Ab.keepD
  rw [if_neg hr]
  exact ⟨.keep i1,zgd i2⟩
 |
  @drop s x y h hr ih =>
  obtain ⟨i1,i2⟩:=ih hn
  obtain ⟨r1,r2⟩:=zpL hr
  unfold Go.Ab.keepD
  split
  · exact ⟨i1,i2⟩
  · exact ⟨.drop i1 hr,zlc i2 r1 r2⟩
theorem zoJ {exit e:List Int}:∀ {l:List St},(keepD exit l e).1=l→zvn exit e l
 | [],_=>trivial
 |
  s::l,h=>by
  unfold keepD at h
  split at h
  ·
   have:=(zgH (exit:=exit) (e:=e) l).length_le
   rw [h] at this
   simp only [List.length_cons] at this
   omega
  ·
   rename_i hr
   simp only [List.cons.injEq,true_and] at h
   refine ⟨?_,zoJ h⟩
   rw [zgP,h] at hr
   exact Bool.eq_false_iff.2 hr
def sweepD (exit e:List Int):List St→List St
 | []=>[]
 | s::l=>if remS s (zae exit l e)=true then sweepD exit e l else s::sweepD exit e l
theorem zcf {exit e ee:List Int} (he:LeL ee e):∀ {l:List St},SubD exit ee (sweepD exit e l) l
 | []=>.nil
 |
  s::l=>by
  have ih:=zcf (exit:=exit) he (l:=l)
  unfold sweepD
  split
  ·
   rename_i hr
   exact .drop ih (zim (ih.begin (fun _ h=>h) he) hr)
  · exact .keep ih
theorem SubD.sweepD {exit e ee:List Int} {x y:List St} (h:SubD exit ee x y) (hn:zvn exit ee x) (he:LeL ee e):SubD exit ee x (Go.Ab.sweepD exit e y):=by
 induction h with
 | nil=>exact .nil
 |
  @keep s x y h ih =>
  obtain ⟨n1,n2⟩:=hn
  have hr:¬ remS s (zae exit y e)=true:=fun hr=>by
   rw [zim (h.begin (fun _ h=>h) he) hr] at n1
   cases n1
  unfold Go.Ab.sweepD
  rw [if_neg hr]
  exact .keep (ih n2)
 |
  @drop s x y h hr ih =>
  unfold Go.Ab.sweepD
  split
  · exact ih hn
  · exact .drop (ih hn) hr
theorem znI {exit e:List Int}:∀ {l:List St},sweepD exit e l=l→zvn exit e l
 | [],_=>trivial
 |
  s::l,h=>by
  unfold sweepD at h
  split at h
  ·
   have:=(zcf (exit:=exit) (ee:=e) (e:=e) (fun _ h=>h) (l:=l)).sub.length_le
   rw [h] at this
   simp only [List.length_cons] at this
   omega
  ·
   rename_i hr
   simp only [List.cons.injEq,true_and] at h
   exact ⟨Bool.eq_false_iff.2 hr,znI h⟩
theorem zl1 {exit:List Int} {g:List Bl} {I:List (List Int)} (hl:I.length=g.length) (hI:∀ i,i < g.length→LeL (newB exit g I i) (I.getD i [])):∀ i,LeL ((zaE exit g).getD i []) (I.getD i []):=by
 have hstep:∀ (n:Nat) (ins:List (List Int)),LInvU exit g ins→n≤g.length→(∀ i,LeL (ins.getD i []) (I.getD i []))→∀ i,LeL ((zdM exit g n ins).getD i []) (I.getD i []):=by
  intro n
  induction n with
  | zero=>intro ins _ _ h;exact h
  |
   succ n ih =>
   intro ins hv hn h
   refine ih _ (hv.step (by omega)) (by omega) fun i=>?_
   unfold zdS
   split
   · exact h i
   ·
    rw [zhl (by rw [hv.len];omega)]
    split
    ·
     rename_i hi
     subst hi
     exact LeL.trans (znU (by rw [hv.len,hl]) h _) (hI _ (by omega))
    · exact h i
 have hfix:∀ (k:Nat) (ins:List (List Int)),LInvU exit g ins→(∀ i,LeL (ins.getD i []) (I.getD i []))→∀ i,LeL ((fixL exit g k ins).getD i []) (I.getD i []):=by
  intro k
  induction k with
  | zero=>intro ins _ h;exact h
  |
   succ k ih =>
   intro ins hv h
   rw [fixL]
   split
   · exact h
   · exact ih _ (hv.pass (Nat.le_refl _)).1 (hstep _ _ hv (Nat.le_refl _) h)
 refine hfix _ _ (zkE exit g) fun i x hx=>?_
 have e:(g.map fun _=>([]:List Int)).getD i []=[]:=by
  rw [List.getD_eq_getElem?_getD,List.getElem?_map]
  cases g[i]? <;> rfl
 rw [e] at hx
 cases hx
def zeF (g:List Bl):Prop:=∀ b∈g,b.stmts≠[]∧∀ s,b.stmts.getLast? = some s→s.op≠1
structure RelD (exit:List Int) (x y:List Bl):Prop where
 len:x.length=y.length
 blk:∀ i (h1:i < x.length) (h2:i < y.length),x[i].addr=y[i].addr∧SubD exit (zM exit x i) x[i].stmts y[i].stmts
theorem zo8 {g:List Bl} {i:Nat} (h:i < g.length):(g.map (·.stmts)).getD i []=g[i].stmts:=zp h
theorem zqq {exit:List Int} {g:List Bl} {ins:List (List Int)} {i:Nat} (h:i < g.length):newB exit g ins i=zcR exit g[i].stmts (endB ins g[i].stmts):=by
 unfold newB;rw [zo8 h]
theorem zbP {exit:List Int} {g:List Bl} {i:Nat} (h:i < g.length):zM exit g i=endB (zaE exit g) g[i].stmts:=by
 unfold zM;rw [zo8 h]
theorem zm2 {a b:List (List Int)} {l m:List St} (hl:a.length=b.length) (h:∀ i,LeL (a.getD i []) (b.getD i [])) (he:l.getLast? = m.getLast?):LeL (endB a l) (endB b m):=fun x hx=>by
 obtain ⟨t,h1,h2,h3⟩:=zdi.1 hx
 refine zdi.2 ⟨t,?_,⟨h2.1,by omega⟩,h _ x h3⟩
 unfold zE at h1 ⊢
 rw [← he]
 exact h1
theorem zdI {exit:List Int} {g:List Bl}:(zaE exit g).length=g.length:=(zgN exit g).1.len
theorem zgS {exit e:List Int} {l:List St} (h:l≠[]):zcR exit l e=zae exit l e:=by
 unfold zcR
 rw [if_neg (by cases l with | nil=>exact absurd rfl h | cons a l=>simp)]
theorem zlk {exit:List Int} {g:List Bl} {i:Nat} (h:i < g.length):(zaE exit g).getD i []=zcR exit g[i].stmts (zM exit g i):=by
 rw [← (zgN exit g).2 i h,zqq h,zbP h]
theorem zzq {g:List (List Int)} {i:Nat} (h:g.length≤i):g.getD i []=[]:=by rw [List.getD_eq_getElem?_getD,List.getElem?_eq_none h];rfl
theorem SubD.ne {exit e:List Int} {x y:List St} (h:SubD exit e x y) (hy:y≠[]∧∀ s,y.getLast? = some s→s.op≠1):x≠[]:=by
 have:=h.last hy.2
 rintro rfl
 rw [List.getLast?_nil] at this
 exact hy.1 (List.getLast?_eq_none_iff.1 this.symm)
theorem RelD.ends {exit:List Int} {x y:List Bl} (h:RelD exit x y) (hy:zeF y):zeF x:=by
 intro b hb
 obtain ⟨i,hi,rfl⟩:=List.mem_iff_getElem.1 hb
 have hiy:i < y.length:=by have:=h.len;omega
 obtain ⟨_,h2⟩:=h.blk i hi hiy
 have hm:=hy _ (List.getElem_mem hiy)
 exact ⟨h2.ne hm,by rw [h2.last hm.2];exact hm.2⟩
theorem RelD.live {exit:List Int} {x y:List Bl} (h:RelD exit x y) (hy:zeF y):∀ i,LeL ((zaE exit x).getD i []) ((zaE exit y).getD i []):=by
 have hlx:=zdI (exit:=exit) (g:=x)
 have hly:=zdI (exit:=exit) (g:=y)
 have hl:=h.len
 let I:List (List Int):=(List.range x.length).map fun i=>((zaE exit x).getD i []).filter fun v=>decide (v∈(zaE exit y).getD i [])
 have hIl:I.length=x.length:=by simp [I]
 have hIg:∀ i v,v∈I.getD i []→v∈(zaE exit x).getD i []∧v∈(zaE exit y).getD i []:=fun i v hv=>by
  by_cases hi:i < x.length
  ·
   have e:I.getD i []=((zaE exit x).getD i []).filter fun v=>decide (v∈(zaE exit y).getD i []):=by simp [I,List.getD_eq_getElem?_getD,hi]
   rw [e,List.mem_filter] at hv
   exact ⟨hv.1,of_decide_eq_true hv.2⟩
  ·
   rw [zzq (by omega)] at hv
   cases hv
 have hII:∀ i v,i < x.length→v∈(zaE exit x).getD i []→v∈(zaE exit y).getD i []→v∈I.getD i []:=fun i v hi h1 h2=>by
  have e:I.getD i []=((zaE exit x).getD i []).filter fun v=>decide (v∈(zaE exit y).getD i []):=by simp [I,List.getD_eq_getElem?_getD,hi]
  rw [e,List.mem_filter]
  exact ⟨h1,decide_eq_true h2⟩
 have hmain:=zl1 (exit:=exit) (g:=x) (I:=I) hIl fun i hi v hv=>by
  have hiy:i < y.length:=by omega
  obtain ⟨_,hs⟩:=h.blk i hi hiy
  have hm:=hy _ (List.getElem_mem hiy)
  have hlast:=hs.last hm.2
  have hex:LeL (endB I x[i].stmts) (zM exit x i):=by
   rw [zbP hi]
   exact zm2 (by omega) (fun j v hv=>(hIg j v hv).1) rfl
  have hey:LeL (endB I x[i].stmts) (zM exit y i):=by
   rw [zbP hiy]
   exact zm2 (by omega) (fun j v hv=>(hIg j v hv).2) hlast
  rw [zqq hi,zgS (hs.ne hm)] at hv
  refine hII i v hi ?_ ?_
  ·
   rw [zlk hi,zgS (hs.ne hm)]
   exact zfr hex v hv
  ·
   rw [zlk hiy,zgS hm.1]
   exact hs.begin hex hey v hv
 exact fun i v hv=>(hIg i v (hmain i v hv)).2
theorem RelD.out {exit:List Int} {x y:List Bl} (h:RelD exit x y) (hy:zeF y) {i:Nat} (hi:i < x.length):LeL (zM exit x i) (zM exit y i):=by
 have hiy:i < y.length:=by have:=h.len;omega
 obtain ⟨_,hs⟩:=h.blk i hi hiy
 rw [zbP hi,zbP hiy]
 exact zm2 (by rw [zdI,zdI];exact h.len) (h.live hy) (hs.last (hy _ (List.getElem_mem hiy)).2)
theorem RelD.refl {exit:List Int} {x:List Bl}:RelD exit x x:=⟨rfl,fun _ _ _=>⟨rfl,SubD.refl⟩⟩
theorem RelD.trans {exit:List Int} {x y z:List Bl} (h:RelD exit x y) (k:RelD exit y z) (hz:zeF z):RelD exit x z:=by
 refine ⟨h.len.trans k.len,fun i h1 h2=>?_⟩
 have hy:i < y.length:=by have:=h.len;omega
 obtain ⟨a1,a2⟩:=h.blk i h1 hy
 obtain ⟨b1,b2⟩:=k.blk i hy h2
 exact ⟨a1.trans b1,a2.trans b2 (h.out (k.ends hz) h1)⟩
theorem RelD.subB {exit:List Int} {x y:List Bl} (h:RelD exit x y):SubB x y:=⟨h.len,fun i h1 h2=>⟨(h.blk i h1 h2).1,(h.blk i h1 h2).2.sub⟩⟩
theorem zpw {exit:List Int} {y z:List Bl} (hy:zeF y) (hl:z.length=y.length)
  (hb:∀ i (h1:i < z.length) (h2:i < y.length),z[i].stmts.getLast? = y[i].stmts.getLast? ∧ z[i].stmts≠[]∧LeL (zae exit z[i].stmts (zM exit y i)) (zae exit y[i].stmts (zM exit y i))) {i:Nat} (hi:i < z.length):LeL (zM exit z i) (zM exit y i):=by
 have hm:=zl1 (exit:=exit) (g:=z) (I:=zaE exit y) (by rw [zdI];omega) fun j hj v hv=>by
  have hjy:j < y.length:=by omega
  obtain ⟨b1,b2,b3⟩:=hb j hj hjy
  rw [zqq hj,zgS b2] at hv
  rw [zlk hjy,zgS (hy _ (List.getElem_mem hjy)).1]
  refine b3 v (zfr ?_ v hv)
  rw [zbP hjy]
  exact zm2 rfl (fun _ _ h=>h) b1
 rw [zbP hi,zbP (show i < y.length by omega)]
 exact zm2 (by rw [zdI,zdI];exact hl) hm (hb i hi (by omega)).1
theorem zkZ {exit:List Int} {y:List Bl} (hy:zeF y):RelD exit (zbR exit y) y:=by
 have hs:∀ i (h2:i < y.length) (ee:List Int),LeL ee (zM exit y i)→SubD exit ee (blkD exit y i y[i]).stmts y[i].stmts:=fun i h2 ee he=>zld he
 refine ⟨zdP,fun i h1 h2=>?_⟩
 rw [zgQ h2]
 refine ⟨rfl,hs i h2 _ (zpw hy zdP (fun j k1 k2=>?_) h1)⟩
 rw [zgQ k2]
 have hm:=hy _ (List.getElem_mem k2)
 have h3:=hs j k2 _ (fun _ h=>h)
 refine ⟨h3.last hm.2,h3.ne hm,?_⟩
 show LeL (zae exit (keepD exit y[j].stmts (zM exit y j)).1 _) _
 rw [← zgP]
 exact zpK
def roundR (exit:List Int) (bl:List Bl):List Bl:=bl.mapIdx fun i b=>⟨b.addr,sweepD exit (zM exit bl i) b.stmts⟩
theorem zbS {exit:List Int} {bl:List Bl}:(roundR exit bl).length=bl.length:=by simp [roundR]
theorem ze3 {exit:List Int} {bl:List Bl} {i:Nat} (h:i < bl.length):(roundR exit bl)[i]'(by rw [zbS];exact h)=⟨bl[i].addr,sweepD exit (zM exit bl i) bl[i].stmts⟩:=by simp [roundR]
theorem ziY {exit:List Int} {y:List Bl} (hy:zeF y):RelD exit (roundR exit y) y:=by
 refine ⟨zbS,fun i h1 h2=>?_⟩
 rw [ze3 h2]
 refine ⟨rfl,zcf (zpw hy zbS (fun j k1 k2=>?_) h1)⟩
 rw [ze3 k2]
 have hm:=hy _ (List.getElem_mem k2)
 have h3:=zcf (exit:=exit) (e:=zM exit y j) (ee:=zM exit y j) (fun _ h=>h) (l:=y[j].stmts)
 exact ⟨h3.last hm.2,h3.ne hm,h3.begin (fun _ h=>h) (fun _ h=>h)⟩
def zrP (exit:List Int) (x:List Bl):Prop:=∀ i (h:i < x.length),zvn exit (zM exit x i) x[i].stmts
theorem RelD.round {exit:List Int} {x y:List Bl} (h:RelD exit x y) (hx:zrP exit x) (hy:zeF y):RelD exit x (zbR exit y):=by
 refine ⟨by rw [zdP];exact h.len,fun i h1 h2=>?_⟩
 have hi:i < y.length:=by have:=h.len;omega
 obtain ⟨a1,a2⟩:=h.blk i h1 hi
 rw [zgQ hi]
 exact ⟨a1,(a2.keepD (hx i h1) (h.out hy h1)).1⟩
theorem RelD.roundR {exit:List Int} {x y:List Bl} (h:RelD exit x y) (hx:zrP exit x) (hy:zeF y):RelD exit x (Go.Ab.roundR exit y):=by
 refine ⟨by rw [zbS];exact h.len,fun i h1 h2=>?_⟩
 have hi:i < y.length:=by have:=h.len;omega
 obtain ⟨a1,a2⟩:=h.blk i h1 hi
 rw [ze3 hi]
 exact ⟨a1,a2.sweepD (hx i h1) (h.out hy h1)⟩
theorem zqZ {exit:List Int} {y:List Bl} (h:zo (zbR exit y)=zo y):zrP exit y:=by
 have e:=zbT.same h
 intro i hi
 have h2:=zgQ (exit:=exit) hi
 simp only [e] at h2
 exact zoJ (congrArg Bl.stmts h2).symm
theorem zdQ {exit:List Int} {y:List Bl}:SubB (roundR exit y) y:=⟨zbS,fun i h1 h2=>by rw [ze3 h2];exact ⟨rfl,(zcf (exit:=exit) (ee:=zM exit y i) (fun _ h=>h)).sub⟩⟩
theorem zrR {exit:List Int} {y:List Bl} (h:zo (roundR exit y)=zo y):zrP exit y:=by
 have e:=zdQ.same h
 intro i hi
 have h2:=ze3 (exit:=exit) hi
 simp only [e] at h2
 exact znI (congrArg Bl.stmts h2).symm
theorem zse {exit:List Int}:∀ (k:Nat) {y:List Bl},zeF y→RelD exit (zjU exit k y) y
 | 0,_,_=>RelD.refl
 |
  k+1,y,hy=>by
  unfold zjU
  split
  · exact RelD.refl
  · exact (zse k ((zkZ hy).ends hy)).trans (zkZ hy) hy
theorem zpr {exit:List Int}:∀ (k:Nat) {y:List Bl},zo y < k→zrP exit (zjU exit k y)
 | 0,_,h=>absurd h (Nat.not_lt_zero _)
 |
  k+1,y,h=>by
  unfold zjU
  split
  ·
   rename_i he
   exact zqZ he
  ·
   have:=(zbT (exit:=exit) (bl:=y)).count
   exact zpr k (by omega)
theorem RelD.dead {exit:List Int}:∀ (k:Nat) {x y:List Bl},RelD exit x y→zrP exit x→zeF y→RelD exit x (zjU exit k y)
 | 0,_,_,h,_,_=>h
 |
  k+1,x,y,h,hx,hy=>by
  unfold zjU
  split
  · exact h
  · exact RelD.dead k (h.round hx hy) hx ((zkZ hy).ends hy)
def deadR (exit:List Int):Nat→List Bl→List Bl
 | 0,bl=>bl
 | k+1,bl=>if zo (roundR exit bl)=zo bl then roundR exit bl else deadR exit k (roundR exit bl)
theorem zrr {exit:List Int}:∀ (k:Nat) {y:List Bl},zeF y→RelD exit (deadR exit k y) y
 | 0,_,_=>RelD.refl
 |
  k+1,y,hy=>by
  unfold deadR
  split
  · exact ziY hy
  · exact (zrr k ((ziY hy).ends hy)).trans (ziY hy) hy
theorem zoQ {exit:List Int}:∀ (k:Nat) {y:List Bl},zo y < k→zrP exit (deadR exit k y)
 | 0,_,h=>absurd h (Nat.not_lt_zero _)
 |
  k+1,y,h=>by
  unfold deadR
  split
  ·
   rename_i he
   rw [zdQ.same he]
   exact zrR he
  ·
   have:=(zdQ (exit:=exit) (y:=y)).count
   exact zoQ k (by omega)
theorem RelD.deadR {exit:List Int}:∀ (k:Nat) {x y:List Bl},RelD exit x y→zrP exit x→zeF y→RelD exit x (Go.Ab.deadR exit k y)
 | 0,_,_,h,_,_=>h
 |
  k+1,x,y,h,hx,hy=>by
  unfold Go.Ab.deadR
  split
  · exact h.roundR hx hy
  · exact RelD.deadR k (h.roundR hx hy) hx ((ziY hy).ends hy)
theorem zyp {exit:List Int} {g:List Bl} (hg:zeF g) {j k:Nat} (hj:zo g < j) (hk:zo g < k):zjU exit j g=deadR exit k g:=by
 have d1:=zpr (exit:=exit) j hj
 have d2:=zoQ (exit:=exit) k hk
 have r1:=(zse (exit:=exit) j hg).deadR k d1 hg
 have r2:=(zrr (exit:=exit) k hg).dead j d2 hg
 exact r1.subB.same (Nat.le_antisymm r1.subB.count r2.subB.count)
theorem znA:∀ {l:List St},zdD l=true→∀ s,l.getLast? = some s→s.op≠1
 | [],_,s,h=>by cases h
 |
  [x],h,s,hs=>by
  simp only [List.getLast?_singleton,Option.some.injEq] at hs
  subst hs
  rw [zdD,Bool.and_eq_true,beq_iff_eq] at h
  have:=h.1
  intro h1
  unfold zjO at this
  rw [h1] at this
  cases this
 |
  x::y::l,h,s,hs=>by
  rw [zdD,Bool.and_eq_true] at h
  rw [List.getLast?_cons_cons] at hs
  exact znA h.2 s hs
theorem zjY:∀ {l:List St},zdA l=0↔∀ s∈l,s.check=0
 | []=>by simp [zdA]
 |
  s::l=>by
  rw [zdA]
  split
  ·
   rename_i h
   constructor
   · intro h2;exact absurd h2 h
   · intro h2;exact absurd (h2 s (by simp)) h
  ·
   rename_i h
   rw [zjY]
   have h:s.check=0:=Classical.not_not.1 h
   simp [h]
theorem zjQ:∀ {l:List Bl},zfQ l=0↔∀ b∈l,∀ s∈b.stmts,s.check=0
 | []=>by simp [zfQ]
 |
  b::l=>by
  rw [zfQ]
  split
  ·
   rename_i h
   constructor
   · intro h2;exact absurd h2 h
   · intro h2;exact absurd (zjY.2 (h2 b (by simp))) h
  ·
   rename_i h
   rw [zjQ]
   have h:zdA b.stmts=0:=Classical.not_not.1 h
   rw [zjY] at h
   constructor
   ·
    intro h2 c hc
    rcases List.mem_cons.1 hc with rfl | hc
    · exact h
    · exact h2 c hc
   · exact fun h2 c hc=>h2 c (List.mem_cons_of_mem _ hc)
structure OkG (g:G):Prop where
 len:g.blocks.length≤256
 cnt:zo g.blocks≤1024
 ne:g.blocks≠[]
 closed:∀ b∈g.blocks,b.stmts≠[]∧zdD b.stmts=true∧∀ t∈zE b.stmts,0≤t∧t < g.blocks.length
 chk:∀ b∈g.blocks,∀ s∈b.stmts,s.check=0
theorem zxk {g:G}:zdz g=0↔OkG g:=by
 unfold zdz zuN
 constructor
 ·
  intro h
  split at h
  · cases h
  ·
   rename_i h1
   split at h
   ·
    rename_i h2
    rw [Bool.and_eq_true,List.all_eq_true] at h2
    refine ⟨by omega,by omega,?_,fun b hb=>?_,zjQ.1 h⟩
    ·
     rintro h3
     rw [h3] at h2
     cases h2.1
    ·
     have:=h2.2 b hb
     unfold zcM at this
     rw [Bool.and_eq_true,Bool.and_eq_true,List.all_eq_true] at this
     refine ⟨?_,this.2.1,fun t ht=>of_decide_eq_true (this.2.2 t ht)⟩
     rintro h3
     rw [h3] at this
     cases this.1
   · cases h
 ·
  rintro ⟨h1,h2,h3,h4,h5⟩
  rw [if_neg (by omega),if_pos,zjQ.2 h5]
  rw [Bool.and_eq_true,List.all_eq_true]
  refine ⟨?_,fun b hb=>?_⟩
  ·
   cases hg:g.blocks with
   | nil=>exact absurd hg h3
   | cons a l=>rfl
  ·
   obtain ⟨k1,k2,k3⟩:=h4 b hb
   unfold zcM
   rw [Bool.and_eq_true,Bool.and_eq_true,List.all_eq_true]
   refine ⟨?_,k2,fun t ht=>decide_eq_true (k3 t ht)⟩
   cases hg:b.stmts with
   | nil=>exact absurd hg k1
   | cons a l=>rfl
theorem OkG.ends {g:G} (h:OkG g):zeF g.blocks:=fun b hb=>⟨(h.closed b hb).1,znA (h.closed b hb).2.1⟩
theorem zmm (s:St) (a:List Int) (h1:s.op=1→s.e.length=1):zz Tryz.prog ze7 [.agg s.cells,za a] (·=.bool (remS s a)):=by
 refine fn_x zmc rfl ?_
 unfold zhK
 have hB:=hBig
 obtain ⟨op,var,width,next,els,tgt,l,cs⟩:=s
 simp only at h1
 unfold remS
 simp only
 by_cases ho:op=1
 ·
  obtain ⟨x,rfl⟩:∃ x,l=[x]:=List.length_eq_one_iff.1 (h1 ho)
  rw [decide_eq_true ho,Bool.true_and]
  (repeat first | simp (disch:=try exact dis1) only [evD,Nat.reduceBEq,Nat.reduceAdd,Nat.reduceLeDiff,fldP,St.cells,za,dT] | with_reducible intro _ | ((with_reducible apply And.intro);omega))
  refine zi (zk (zpa a var) rfl) ?_
  by_cases hm:var∈a
  ·
   rw [decide_eq_true hm]
   (repeat first | simp (disch:=try exact dis1) only [evD,Nat.reduceBEq,Nat.reduceAdd,Nat.reduceLeDiff,zcH,Bool.not_true,Bool.false_and] | with_reducible intro _ | ((with_reducible apply And.intro);omega))
   exact ⟨_, .bool _ _,rfl⟩
  ·
   rw [decide_eq_false hm]
   have hg:[encX x].getD (Int.toNat 0) []=encX x:=rfl
   (repeat first | simp (disch:=try exact dis1) only [evD,Nat.reduceBEq,Nat.reduceAdd,Nat.reduceLeDiff,fldP,hg,zax,zZ,List.length_singleton] | with_reducible intro _ | ((with_reducible apply And.intro);omega))
   refine zi (zk (zqB _ x (Nat.le_refl _)) (flX rfl)) ?_
   (repeat first | simp (disch:=try exact dis1) only [evD,Nat.reduceBEq,Nat.reduceAdd,Nat.reduceLeDiff,zcH,Bool.not_false,Bool.true_and] | with_reducible intro _ | ((with_reducible apply And.intro);omega))
   refine ⟨_, .bool _ _,?_⟩
   simp
 ·
  rw [decide_eq_false ho,Bool.false_and]
  (repeat first | simp (disch:=try exact dis1) only [evD,Nat.reduceBEq,Nat.reduceAdd,Nat.reduceLeDiff,fldP,St.cells,za,dF,zcH] | with_reducible intro _ | ((with_reducible apply And.intro);omega))
  exact ⟨_, .bool _ _,rfl⟩
theorem zrq (b:Bl) (e exit:List Int) (h1:∀ s∈b.stmts,s.op=1→s.e.length=1) (hsz:∀ s∈b.stmts,zC s.e≤100000) (hl:b.stmts.length≤1000000) (hroom:∀ i,i≤b.stmts.length→(zae exit (b.stmts.drop i) e).length+exit.length≤800000) :
  zz Tryz.prog zr [.agg b.cells,za e,za exit] (·=.agg (Bl.cells ⟨b.addr,sweepD exit e b.stmts⟩)):=by
 refine fn_x zsj rfl ?_
 unfold zlC
 have hB:=hBig
 obtain ⟨ad,l⟩:=b
 simp only at h1 hsz hl hroom
 have hz:zae exit (l.drop l.length) e=e:=by rw [List.drop_length];rfl
 have hz2:sweepD exit e (l.drop l.length)=[]:=by rw [List.drop_length];rfl
 simp only [Bl.cells]
 (repeat first | simp (disch:=try exact dis1) only [evD,Nat.reduceBEq,Nat.reduceAdd,Nat.reduceLeDiff,fldP,za] | with_reducible intro _ | ((with_reducible apply And.intro);omega))
 refine zg (fun i:Nat=>([(1,za (zae exit (l.drop i) e)),(2,za exit),(3,encP 2 [.int .u32 ad,encL 8 St.cells l]),(6, .ptr 0 0 0 0 0),(7, .ptr 1 0 0 0 0),(8, .int .i64 ((i:Int) - 1))],
   [(0, .row 2 [[.int .u32 0, .nilsl]] 0),(1, .row 2 [[.int .u32 ad, .own 2 0 0 0 (sweepD exit e (l.drop i)).length]] 0),(2, .row 8 ((sweepD exit e (l.drop i)).map St.cells) 0)])) 3
  (fun i=>i≤l.length) (fun i=>i) l.length (Nat.le_refl _) ?_ ?_
 ·
  rw [hz,hz2]
  exact (Ent.tab [(0,0,0),(1,1,0)] [] rfl (by (try simp only [evWB,Nat.reduceBEq,Nat.reduceAdd,Nat.reduceSub,Nat.reduceLeDiff,Nat.reduceLT,implies_true,za,List.map_nil,List.length_nil])<;>exact fin2) (by (try simp only [evWB,Nat.reduceBEq,Nat.reduceAdd,Nat.reduceSub,Nat.reduceLeDiff,Nat.reduceLT,implies_true,za,List.map_nil,List.length_nil])<;>exact fin2))
 rintro i hi wf
 unfold ziL
 rcases Nat.eq_zero_or_pos i with rfl | hp
 ·
  rw [List.drop_zero]
  have hk:=(zcf (exit:=exit) (e:=e) (ee:=e) (fun _ h=>h) (l:=l)).sub.length_le
  generalize sweepD exit e l=K at hk ⊢
  (repeat first | simp (disch:=try exact dis1) only [evD,Nat.reduceBEq,Nat.reduceAdd,Nat.reduceLeDiff,dF,Int.natCast_zero] | with_reducible intro _ | ((with_reducible apply And.intro);omega))
  unfold zix
  (repeat first | simp (disch:=try exact dis1) only [evD,Nat.reduceBEq,Nat.reduceAdd,Nat.reduceLeDiff,zl5] | with_reducible intro _ | ((with_reducible apply And.intro);omega))
  refine ⟨.agg [.int .u32 ad,encL 8 St.cells K], .agg _ _ _ rfl (fun j a c h1 h2=>?_),rfl⟩
  match j with
  | 0=>cases h1;cases h2;exact .int _ _ _
  | 1=>cases h1;cases h2;exact zwv trivial rfl (by omega)
  | j+2=>cases h1
 ·
  obtain ⟨i,rfl⟩:∃ k,i=k+1:=⟨i - 1,by omega⟩
  have hil:i < l.length:=by omega
  have hgl:=zp (f:=St.cells) (d:=[]) hil
  have ei:((i+1:Nat):Int) - 1=i:=by omega
  have hr:=hroom (i+1) (by omega)
  have hst:zae exit (l.drop i) e=zbi exit l[i] (zae exit (l.drop (i+1)) e):=by rw [List.drop_eq_getElem_cons hil];rfl
  have hsw:sweepD exit e (l.drop i)=if remS l[i] (zae exit (l.drop (i+1)) e)=true then sweepD exit e (l.drop (i+1)) else l[i]::sweepD exit e (l.drop (i+1)):=by rw [List.drop_eq_getElem_cons hil];rfl
  have hb:=zkQ l[i] (zae exit (l.drop (i+1)) e) exit (hsz _ (List.getElem_mem hil)) hr
  have hrm:=zmm l[i] (zae exit (l.drop (i+1)) e) (h1 _ (List.getElem_mem hil))
  have hk:=(zcf (exit:=exit) (e:=e) (ee:=e) (fun _ h=>h) (l:=l.drop (i+1))).sub.length_le
  rw [List.length_drop] at hk
  rw [← hst] at hb
  generalize zae exit (l.drop (i+1)) e=c at hb hrm hsw ⊢
  generalize sweepD exit e (l.drop (i+1))=K at hk hsw ⊢
  (repeat first | simp (disch:=try exact dis1) only [evD,Nat.reduceBEq,Nat.reduceAdd,Nat.reduceLeDiff,ei,dT,hgl,fldP,St.len,St.eight] | with_reducible intro _ | ((with_reducible apply And.intro);omega))
  refine zi (zk hrm rfl) ?_
  cases hx:remS l[i] c with
  |
   true =>
   rw [hx,if_pos rfl] at hsw
   (repeat first | simp (disch:=try exact dis1) only [evD,Nat.reduceBEq,Nat.reduceAdd,Nat.reduceLeDiff,hgl,fldP,St.len,St.eight] | with_reducible intro _ | ((with_reducible apply And.intro);omega))
   refine zi (zk hb rfl) ?_
   (repeat first | simp (disch:=try exact dis1) only [evD,Nat.reduceBEq,Nat.reduceAdd,Nat.reduceLeDiff] | with_reducible intro _ | ((with_reducible apply And.intro);omega))
   exact ⟨i,by omega,by omega,(Ent.tab [(0,0,0),(1,1,0),(2,2,0)] [] rfl (by (try simp only [evWB,Nat.reduceBEq,Nat.reduceAdd,Nat.reduceSub,Nat.reduceLeDiff,Nat.reduceLT,implies_true,za,hsw])<;>exact fin7) (by (try simp only [evWB,Nat.reduceBEq,Nat.reduceAdd,Nat.reduceSub,Nat.reduceLeDiff,Nat.reduceLT,implies_true,za,hsw])<;>exact fin7))⟩
  |
   false =>
   rw [hx,if_neg (by simp)] at hsw
   (repeat first | simp (disch:=try exact dis1) only [evD,Nat.reduceBEq,Nat.reduceAdd,Nat.reduceLeDiff,hgl,fldP,St.len,St.eight] | with_reducible intro _ | ((with_reducible apply And.intro);omega))
   (repeat' with_reducible apply And.intro)
   all_goals try omega
   all_goals intro _
   all_goals (repeat' with_reducible apply And.intro)
   all_goals try omega
   all_goals (refine zi (zk hb rfl) ?_;(repeat first | simp (disch:=try exact dis1) only [evD,Nat.reduceBEq,Nat.reduceAdd,Nat.reduceLeDiff] | with_reducible intro _ | ((with_reducible apply And.intro);omega)))
   all_goals exact ⟨i,by omega,by omega,(Ent.tab [(0,0,0),(1,1,0),(2,3,1)] [] rfl (by (try simp only [evWB,Nat.reduceBEq,Nat.reduceAdd,Nat.reduceSub,Nat.reduceLeDiff,Nat.reduceLT,implies_true,za,hsw,List.map_cons,List.length_cons])<;>exact fin7) (by (try simp only [evWB,Nat.reduceBEq,Nat.reduceAdd,Nat.reduceSub,Nat.reduceLeDiff,Nat.reduceLT,implies_true,za,hsw,List.map_cons,List.length_cons])<;>exact fin7))⟩
def st0:St:=⟨0,0,0,0,0,0,[],[]⟩
def revP (l:List St) (i x:Nat):St:=if x < i∨l.length - i≤x then l.getD (l.length - 1 - x) st0 else l.getD x st0
def revL (l:List St) (i:Nat):List St:=(List.range l.length).map (revP l i)
theorem zzm {l:List St} {i:Nat}:(revL l i).length=l.length:=by simp [revL]
theorem zrt {l:List St}:revL l 0=l:=by
 apply List.ext_getElem?
 intro x
 unfold revL revP
 by_cases hx:x < l.length
 ·
  have:¬ l.length≤x:=by omega
  simp [hx,List.getD_eq_getElem?_getD,this]
 · simp [hx]
theorem zzf {l:List St} {i:Nat} (h:l.length≤2 * i+1):revL l i=l.reverse:=by
 apply List.ext_getElem?
 intro x
 unfold revL revP
 by_cases hx:x < l.length
 ·
  rw [List.getElem?_reverse hx]
  simp only [List.getElem?_map,List.getElem?_range hx,Option.map_some]
  by_cases hc:x < i∨l.length - i≤x
  ·
   rw [if_pos hc]
   rw [List.getD_eq_getElem?_getD,List.getElem?_eq_getElem (show l.length - 1 - x < l.length by omega)]
   rfl
  ·
   rw [if_neg hc,show l.length - 1 - x=x by omega,List.getD_eq_getElem?_getD,List.getElem?_eq_getElem hx]
   rfl
 · simp [hx]
theorem zub {l:List St} {i x:Nat} (hx:x < l.length):((revL l i).map St.cells).getD x []=(revP l i x).cells:=by
 simp [revL,List.getD_eq_getElem?_getD,hx]
theorem zyl {l:List St} {i:Nat} (h:2 * i+1 < l.length) :
  (((revL l i).map St.cells).set i (revP l i (l.length - 1 - i)).cells).set (l.length - 1 - i) (revP l i i).cells=(revL l (i+1)).map St.cells:=by
 unfold revL
 rw [List.map_map,List.map_map,zeR,zeR]
 refine List.map_congr_left fun x hx=>?_
 have hx':=List.mem_range.1 hx
 unfold updF
 simp only [Function.comp]
 by_cases h1:x=l.length - 1 - i
 ·
  rw [if_pos h1]
  unfold revP
  rw [if_neg (by omega),if_pos (by omega),show l.length - 1 - x=i by omega]
 ·
  rw [if_neg h1]
  by_cases h2:x=i
  ·
   rw [if_pos h2]
   unfold revP
   rw [if_neg (by omega),if_pos (by omega),h2]
  ·
   rw [if_neg h2]
   unfold revP
   by_cases h3:x < i∨l.length - i≤x
   · rw [if_pos h3,if_pos (by omega)]
   · rw [if_neg h3,if_neg (by omega)]
theorem renS {ρ:Nat→Nat} {l:List St} {g:Nat}:AObj.ren ρ (.row 8 (l.map St.cells) g)=.row 8 (l.map St.cells) g:=by
 simp only [AObj.ren]
 rw [zg2 (zh fun s=>s.flat)]
theorem zlz (l:List St) (g:Nat) (hl:l.length≤1000000):zad Tryz.prog zay [.own 0 0 g 0 l.length] [(0, .row 8 (l.map St.cells) g)] 1
  (fun v H nx=>v=.tup []∧H=[(0, .row 8 (l.reverse.map St.cells) g)]∧nx=1):=by
 refine zbZ (fn_x zcX rfl ?_)
 unfold zbf
 have hB:=hBig
 (repeat first | simp (disch:=try exact dis1) only [evD,Nat.reduceBEq,Nat.reduceAdd,Nat.reduceLeDiff] | with_reducible intro _ | ((with_reducible apply And.intro);omega))
 refine zg (fun i:Nat=>([(0, .own 0 0 g 0 l.length),(2, .int .i64 i),(3, .int .i64 ((l.length:Int) - 1 - i))],[(0, .row 8 ((revL l i).map St.cells) g)])) 1 (fun i=>2 * i≤l.length+1) (fun i=>l.length+1 - i) 0 (by omega) (Ent.tabB [(0,0,0)] [] rfl rfl rfl (by (try simp only [evWB,Nat.reduceBEq,Nat.reduceAdd,Nat.reduceSub,Nat.reduceLeDiff,Nat.reduceLT,implies_true,zrt])<;>exact fin2) (by (try simp only [evWB,Nat.reduceBEq,Nat.reduceAdd,Nat.reduceSub,Nat.reduceLeDiff,Nat.reduceLT,implies_true,zrt])<;>exact fin2)) ?_
 intro i hi wf
 unfold za0
 (repeat first | simp (disch:=try exact dis1) only [evD,Nat.reduceBEq,Nat.reduceAdd,Nat.reduceLeDiff] | with_reducible intro _ | ((with_reducible apply And.intro);omega))
 (refine zaJ (fun h=>?_) (fun h=>?_))<;>(try simp only [dcd] at h)
 ·
  have e:((l.length:Int) - 1 - i).toNat=l.length - 1 - i:=by omega
  have hsw:=zyl (l:=l) (i:=i) (by omega)
  have g1:=zub (l:=l) (i:=i) (show l.length - 1 - i < l.length by omega)
  have g2:=zub (l:=l) (i:=i) (show i < l.length by omega)
  (repeat first | simp (disch:=try exact dis1) only [evD,Nat.reduceBEq,Nat.reduceAdd,Nat.reduceLeDiff,e,zzm,g1,g2,St.len,St.eight,List.length_set] | with_reducible intro _ | ((with_reducible apply And.intro);omega))
  rw [hsw]
  exact ⟨i+1,by omega,by omega,(Ent.tabB [(0,0,0)] [] rfl rfl rfl (by (try simp only [evWB,Nat.reduceBEq,Nat.reduceAdd,Nat.reduceSub,Nat.reduceLeDiff,Nat.reduceLT,implies_true])<;>exact fin2) (by (try simp only [evWB,Nat.reduceBEq,Nat.reduceAdd,Nat.reduceSub,Nat.reduceLeDiff,Nat.reduceLT,implies_true])<;>exact fin2))⟩
 ·
  (repeat first | simp (disch:=try exact dis1) only [evD,Nat.reduceBEq,Nat.reduceAdd,Nat.reduceLeDiff,zbb] | with_reducible intro _ | ((with_reducible apply And.intro);omega))
  refine ⟨.tup [],[(0, .row 8 (l.reverse.map St.cells) g)],1,?_,rfl,rfl,rfl⟩
  rw [zzf (by omega)]
  exact (Ent.tabB [(0,0,0)] [] rfl rfl rfl (by (try simp only [evWB,Nat.reduceBEq,Nat.reduceAdd,Nat.reduceSub,Nat.reduceLeDiff,Nat.reduceLT,implies_true])<;>exact fin2) (by (try simp only [evWB,Nat.reduceBEq,Nat.reduceAdd,Nat.reduceSub,Nat.reduceLeDiff,Nat.reduceLT,implies_true])<;>exact fin2))
def zeX (ad:Int) (n:Nat) (D:List Bl) (T:Nat→MS):AH:=[(0, .row 2 [[.int .u32 0, .nilsl]] 0),(1, .row 2 [[.int .u32 ad, .own 2 0 0 0 n]] 0),(2, .row 2 (D.map Bl.cells) 0),(3, .row 1 (mps 4 n) 0),(4,famS n T)]
theorem zzF {exit:List Int} {sts:List St} {i:Nat} {a:MS} (h:i < sts.length):keepM exit (sts.drop i) a=if remS sts[i] (keepM exit (sts.drop (i+1)) a).2.keys=true then keepM exit (sts.drop (i+1)) a else (sts[i]::(keepM exit (sts.drop (i+1)) a).1,zdy exit sts[i] (keepM exit (sts.drop (i+1)) a).2):=by
 rw [List.drop_eq_getElem_cons h,keepM]
theorem zx1 {α:Type} {f:α→List AV} {A:List α} {a:α} {i:Nat} {c:List AV} {H HH:AH} {σ:Nat→Nat→Option (Nat × Nat × Nat)} {D:Nat→Nat→Prop} (hf:∀ a,zK (f a)=true) (hi:i < A.length) (hl:(f a).length=c.length)
  (h:∀ (j:Nat) (x y:AV),c[j]? = some x→(f a)[j]? = some y→Vw H HH σ D true x y):RowV H HH σ D ((A.map f).set i c) ((A.set i a).map f):=by
 refine ⟨by simp,fun k c2 hk=>?_⟩
 rw [List.map_set] at hk
 by_cases hki:i=k
 ·
  subst hki
  rw [List.getElem?_set_self (by simpa using hi)] at hk ⊢
  cases hk
  exact ⟨c,rfl,hl,h⟩
 ·
  rw [List.getElem?_set_ne hki] at hk ⊢
  refine ⟨c2,hk,rfl,fun j x y h1 h2=>?_⟩
  rw [h1] at h2
  cases h2
  obtain ⟨b,_,rfl⟩:=List.mem_map.1 (List.mem_of_getElem? hk)
  exact zcp (za2 (hf b) h1)
theorem zv0 {H HH:AH} {σ:Nat→Nat→Option (Nat × Nat × Nat)} {D:Nat→Nat→Prop} {r:Nat} {kp:List St} {x:Int} (hD:D r 0) (hg:H.get r 0=some (.row 8 (kp.map St.cells) 0)) (hb:kp.length≤big) :
  ∀ (j:Nat) (a b:AV),[AV.int .u32 x, .own r 0 0 0 kp.length][j]? = some a→(Bl.cells ⟨x,kp⟩)[j]? = some b→Vw H HH σ D true a b:=by
 intro j a b h1 h2
 match j with
 | 0=>cases h1;cases h2;exact .int _ _ _
 | 1=>cases h1;cases h2;exact zwv hD hg hb
 | j+2=>cases h1
theorem zBK {Q:QT} (ad:Int) (n b:Nat) (hb:b < n) (hn:n≤1000000) (D:List Bl) (hD:D.length=n) (T:Nat→MS) (exit:List Int) (sts:List St) (a0:MS) (r0:Nat) (m0:Bool)
  (hsz:∀ s∈sts,zC s.e≤100000) (ha:a0.ok) (h1:a0.1+za7 exit.length sts≤1000000) (h2:a0.2.length+za7 exit.length sts≤1000000) (hlen:sts.length≤1000000) (hr0:r0+sts.length≤2000000)
  (hfin:∀ K H nx,Ent 0 K H nx [(1,za exit),(4, .ptr 0 0 0 0 0),(8, .ptr 1 0 0 0 0),(9, .int .i64 ((r0+(sts.length - (keepM exit sts a0).1.length):Nat):Int)),(10, .bool (m0||decide ((keepM exit sts a0).1.length < sts.length))),(12, .own 3 0 0 0 n),(35, .int .i64 n),(36, .int .i64 ((b+1:Nat):Int))]
   (zeX ad n (D.set b ⟨(D[b]'(by omega)).addr,(keepM exit sts a0).1⟩) T) 5→Q .normal K H nx)
  {K:Kn} {H:AH} {nx:Nat} (hent:Ent 0 K H nx [(1,za exit),(4, .ptr 0 0 0 0 0),(8, .ptr 1 0 0 0 0),(9, .int .i64 r0),(10, .bool m0),(12, .own 3 0 0 0 n),(13, .int .i64 b),(14, .mp 5 0),(15,encL 8 St.cells sts),(16, .own 6 0 0 0 0),(17, .int .i64 ((sts.length:Int) - 1)),(35, .int .i64 n),(36, .int .i64 b)]
   (zeX ad n D T++[(5, .row 3 ((setM a0.1 a0.2).map cm) 0),(6, .row 8 [] 0)]) 7) :
  zhW Tryz.prog 0 zcU (zaZ 4 (seqQ Tryz.prog 0 zc1 (zaZ 3 (seqQ Tryz.prog 0 zc3 Q)))) K H nx:=by
 have hB:=hBig
 have hz:keepM exit (sts.drop sts.length) a0=([],a0):=by rw [List.drop_length];rfl
 have hlk:=fun i=>(zn2 (exit:=exit) (e:=a0) (sts.drop i)).length_le
 simp only [List.length_drop] at hlk
 refine zg (fun i:Nat=>([(1,za exit),(4, .ptr 0 0 0 0 0),(8, .ptr 1 0 0 0 0),(9, .int .i64 ((r0+(sts.length - i - (keepM exit (sts.drop i) a0).1.length):Nat):Int)),(10, .bool (m0||decide ((keepM exit (sts.drop i) a0).1.length < sts.length - i))),(12, .own 3 0 0 0 n),(13, .int .i64 b),(14, .mp 5 0),(15,encL 8 St.cells sts),(16, .own 6 0 0 0 (keepM exit (sts.drop i) a0).1.length),(17, .int .i64 ((i:Int) - 1)),(35, .int .i64 n),(36, .int .i64 b)],
   zeX ad n D T++[(5, .row 3 ((setM (keepM exit (sts.drop i) a0).2.1 (keepM exit (sts.drop i) a0).2.2).map cm) 0),(6, .row 8 ((keepM exit (sts.drop i) a0).1.reverse.map St.cells) 0)])) 7
  (fun i=>i≤sts.length) (fun i=>i) sts.length (Nat.le_refl _) ?_ ?_
 ·
  rw [hz]
  simp only [List.length_nil,Nat.sub_self,Nat.lt_irrefl,decide_false,Bool.or_false,Nat.add_zero,List.reverse_nil,List.map_nil]
  exact hent
 rintro i hi wf
 unfold zcU
 have hc:=zmB (k:=exit.length) (l:=sts) (i:=i)
 obtain ⟨k1,k2,k3⟩:=zuX (exit:=exit) (l:=sts.drop i) ha (by omega) (by omega)
 have hli:=hlk i
 rcases Nat.eq_zero_or_pos i with rfl | hp
 ·
  rw [List.drop_zero] at *
  generalize keepM exit sts a0=R at *
  obtain ⟨kp,a⟩:=R
  simp only [Nat.sub_zero] at *
  have hrl:kp.reverse.length=kp.length:=List.length_reverse
  have hrr:kp.reverse.reverse=kp:=List.reverse_reverse kp
  have hbD:b < D.length:=by omega
  have hrev:=zlz kp.reverse 0 (by omega)
  rw [hrl,hrr] at hrev
  (repeat first | simp (disch:=try exact dis1) only [evD,Nat.reduceBEq,Nat.reduceAdd,Nat.reduceLeDiff,dF,Int.natCast_zero,zeX,List.cons_append,List.nil_append] | with_reducible intro _ | ((with_reducible apply And.intro);omega))
  unfold zc1
  (repeat first | simp (disch:=try exact dis1) only [evD,Nat.reduceBEq,Nat.reduceAdd,Nat.reduceLeDiff] | with_reducible intro _ | ((with_reducible apply And.intro);omega))
  refine zX [(0,6,0)] 1 _ (hrev) rfl rfl fin8 fin8 ?_
  rintro _ _ _ ⟨rfl,rfl,rfl⟩
  have hg:(D.map Bl.cells).getD b []=[.int .u32 D[b].addr,encL 8 St.cells D[b].stmts]:=zp (f:=Bl.cells) (d:=[]) hbD
  have hsp:∀ x y z:AV,splice [x,y] 1 [z]=[x,z]:=fun _ _ _=>rfl
  (repeat first | simp (disch:=try exact dis1) only [evD,Nat.reduceBEq,Nat.reduceAdd,Nat.reduceLeDiff,renS,hg,hsp] | with_reducible intro _ | ((with_reducible apply And.intro);omega))
  unfold zc3
  (repeat first | simp (disch:=try exact dis1) only [evD,Nat.reduceBEq,Nat.reduceAdd,Nat.reduceLeDiff] | with_reducible intro _ | ((with_reducible apply And.intro);omega))
  refine hfin _ _ _ ?_
  refine Ent.tab [(0,0,0),(1,1,0),(2,2,0),(3,3,0),(4,4,0)] [6] rfl ?_ ?_
  · ((try simp only [evWB,Nat.reduceBEq,Nat.reduceAdd,Nat.reduceSub,Nat.reduceLeDiff,Nat.reduceLT,implies_true,zeX,famS])<;>((repeat' with_reducible apply And.intro)<;>first | omega | rfl | (exact zx1 (fun _=>rfl) hbD rfl (zv0 rfl rfl (by omega));done) | (refine zH zS (by decide) ⟨rfl,rfl⟩ ?_;(try simp only [evWB,Nat.reduceBEq,Nat.reduceAdd,Nat.reduceSub,Nat.reduceLeDiff,Nat.reduceLT,implies_true,zeX,famS])<;>((repeat' with_reducible apply And.intro)<;>first | omega | rfl | (refine zH zS (by decide) ⟨rfl,rfl⟩ ?_;(try simp only [evWB,Nat.reduceBEq,Nat.reduceAdd,Nat.reduceSub,Nat.reduceLeDiff,Nat.reduceLT,implies_true,zeX,famS])<;>((repeat' with_reducible apply And.intro)<;>first | omega | rfl | exact zhj (fun _=>rfl) | exact Vw.it _ _ rfl | exact Vw.mp _ _ _ _ rfl | exact zH zS (by decide) ⟨rfl,rfl⟩ trivial | exact zH zS (by decide) (fun _ _=>⟨rfl,rfl⟩) trivial | (refine zj1 rfl ?_;(repeat' (first | exact zh zS | exact zap | exact zh (fun _=>rfl) | exact zh (fun _=>zl) | exact zh (fun _=>zb) | exact zt zl | exact zt zb | exact zas rfl | exact zar | exact zt rfl | refine zW ?_ ?_ | refine zm rfl ?_ | refine zm zl ?_ | refine zm zb ?_));done) | exact zd4 rfl | (refine RowV.of_flat ?_;(repeat' (first | exact zh zS | exact zap | exact zh (fun _=>rfl) | exact zh (fun _=>zl) | exact zh (fun _=>zb) | exact zt zl | exact zt zb | exact zas rfl | exact zar | exact zt rfl | refine zW ?_ ?_ | refine zm rfl ?_ | refine zm zl ?_ | refine zm zb ?_));done) | ((repeat' (first | exact zh zS | exact zap | exact zh (fun _=>rfl) | exact zh (fun _=>zl) | exact zh (fun _=>zb) | exact zt zl | exact zt zb | exact zas rfl | exact zar | exact zt rfl | refine zW ?_ ?_ | refine zm rfl ?_ | refine zm zl ?_ | refine zm zb ?_));done) | exact zgr rfl rfl (by omega) | exact zai rfl rfl (by omega) | exact zd8 rfl rfl (by omega) | exact zgo (fun _=>rfl) | exact zH (fun _=>rfl) (by decide) ⟨rfl,rfl⟩ trivial | exact zH (fun _=>rfl) (by decide) (fun _ _=>⟨rfl,rfl⟩) trivial | (simp;done));done) | exact zhj (fun _=>rfl) | exact Vw.it _ _ rfl | exact Vw.mp _ _ _ _ rfl | exact zH zS (by decide) ⟨rfl,rfl⟩ trivial | exact zH zS (by decide) (fun _ _=>⟨rfl,rfl⟩) trivial | (refine zj1 rfl ?_;(repeat' (first | exact zh zS | exact zap | exact zh (fun _=>rfl) | exact zh (fun _=>zl) | exact zh (fun _=>zb) | exact zt zl | exact zt zb | exact zas rfl | exact zar | exact zt rfl | refine zW ?_ ?_ | refine zm rfl ?_ | refine zm zl ?_ | refine zm zb ?_));done) | exact zd4 rfl | (refine RowV.of_flat ?_;(repeat' (first | exact zh zS | exact zap | exact zh (fun _=>rfl) | exact zh (fun _=>zl) | exact zh (fun _=>zb) | exact zt zl | exact zt zb | exact zas rfl | exact zar | exact zt rfl | refine zW ?_ ?_ | refine zm rfl ?_ | refine zm zl ?_ | refine zm zb ?_));done) | ((repeat' (first | exact zh zS | exact zap | exact zh (fun _=>rfl) | exact zh (fun _=>zl) | exact zh (fun _=>zb) | exact zt zl | exact zt zb | exact zas rfl | exact zar | exact zt rfl | refine zW ?_ ?_ | refine zm rfl ?_ | refine zm zl ?_ | refine zm zb ?_));done) | exact zgr rfl rfl (by omega) | exact zai rfl rfl (by omega) | exact zd8 rfl rfl (by omega) | exact zgo (fun _=>rfl) | exact zH (fun _=>rfl) (by decide) ⟨rfl,rfl⟩ trivial | exact zH (fun _=>rfl) (by decide) (fun _ _=>⟨rfl,rfl⟩) trivial | (simp;done));done) | exact zhj (fun _=>rfl) | exact Vw.it _ _ rfl | exact Vw.mp _ _ _ _ rfl | exact zH zS (by decide) ⟨rfl,rfl⟩ trivial | exact zH zS (by decide) (fun _ _=>⟨rfl,rfl⟩) trivial | (refine zj1 rfl ?_;(repeat' (first | exact zh zS | exact zap | exact zh (fun _=>rfl) | exact zh (fun _=>zl) | exact zh (fun _=>zb) | exact zt zl | exact zt zb | exact zas rfl | exact zar | exact zt rfl | refine zW ?_ ?_ | refine zm rfl ?_ | refine zm zl ?_ | refine zm zb ?_));done) | exact zd4 rfl | (refine RowV.of_flat ?_;(repeat' (first | exact zh zS | exact zap | exact zh (fun _=>rfl) | exact zh (fun _=>zl) | exact zh (fun _=>zb) | exact zt zl | exact zt zb | exact zas rfl | exact zar | exact zt rfl | refine zW ?_ ?_ | refine zm rfl ?_ | refine zm zl ?_ | refine zm zb ?_));done) | ((repeat' (first | exact zh zS | exact zap | exact zh (fun _=>rfl) | exact zh (fun _=>zl) | exact zh (fun _=>zb) | exact zt zl | exact zt zb | exact zas rfl | exact zar | exact zt rfl | refine zW ?_ ?_ | refine zm rfl ?_ | refine zm zl ?_ | refine zm zb ?_));done) | exact zgr rfl rfl (by omega) | exact zai rfl rfl (by omega) | exact zd8 rfl rfl (by omega) | exact zgo (fun _=>rfl) | exact zH (fun _=>rfl) (by decide) ⟨rfl,rfl⟩ trivial | exact zH (fun _=>rfl) (by decide) (fun _ _=>⟨rfl,rfl⟩) trivial | (simp;done)))
  · ((try simp only [evWB,Nat.reduceBEq,Nat.reduceAdd,Nat.reduceSub,Nat.reduceLeDiff,Nat.reduceLT,implies_true,zeX])<;>((repeat' with_reducible apply And.intro)<;>first | omega | rfl | (rfl;done) | (refine zH zS (by decide) ⟨rfl,rfl⟩ ?_;(try simp only [evWB,Nat.reduceBEq,Nat.reduceAdd,Nat.reduceSub,Nat.reduceLeDiff,Nat.reduceLT,implies_true,zeX])<;>((repeat' with_reducible apply And.intro)<;>first | omega | rfl | (refine zH zS (by decide) ⟨rfl,rfl⟩ ?_;(try simp only [evWB,Nat.reduceBEq,Nat.reduceAdd,Nat.reduceSub,Nat.reduceLeDiff,Nat.reduceLT,implies_true,zeX])<;>((repeat' with_reducible apply And.intro)<;>first | omega | rfl | exact zhj (fun _=>rfl) | exact Vw.it _ _ rfl | exact Vw.mp _ _ _ _ rfl | exact zH zS (by decide) ⟨rfl,rfl⟩ trivial | exact zH zS (by decide) (fun _ _=>⟨rfl,rfl⟩) trivial | (refine zj1 rfl ?_;(repeat' (first | exact zh zS | exact zap | exact zh (fun _=>rfl) | exact zh (fun _=>zl) | exact zh (fun _=>zb) | exact zt zl | exact zt zb | exact zas rfl | exact zar | exact zt rfl | refine zW ?_ ?_ | refine zm rfl ?_ | refine zm zl ?_ | refine zm zb ?_));done) | exact zd4 rfl | (refine RowV.of_flat ?_;(repeat' (first | exact zh zS | exact zap | exact zh (fun _=>rfl) | exact zh (fun _=>zl) | exact zh (fun _=>zb) | exact zt zl | exact zt zb | exact zas rfl | exact zar | exact zt rfl | refine zW ?_ ?_ | refine zm rfl ?_ | refine zm zl ?_ | refine zm zb ?_));done) | ((repeat' (first | exact zh zS | exact zap | exact zh (fun _=>rfl) | exact zh (fun _=>zl) | exact zh (fun _=>zb) | exact zt zl | exact zt zb | exact zas rfl | exact zar | exact zt rfl | refine zW ?_ ?_ | refine zm rfl ?_ | refine zm zl ?_ | refine zm zb ?_));done) | exact zgr rfl rfl (by omega) | exact zai rfl rfl (by omega) | exact zd8 rfl rfl (by omega) | exact zgo (fun _=>rfl) | exact zH (fun _=>rfl) (by decide) ⟨rfl,rfl⟩ trivial | exact zH (fun _=>rfl) (by decide) (fun _ _=>⟨rfl,rfl⟩) trivial | (simp;done));done) | exact zhj (fun _=>rfl) | exact Vw.it _ _ rfl | exact Vw.mp _ _ _ _ rfl | exact zH zS (by decide) ⟨rfl,rfl⟩ trivial | exact zH zS (by decide) (fun _ _=>⟨rfl,rfl⟩) trivial | (refine zj1 rfl ?_;(repeat' (first | exact zh zS | exact zap | exact zh (fun _=>rfl) | exact zh (fun _=>zl) | exact zh (fun _=>zb) | exact zt zl | exact zt zb | exact zas rfl | exact zar | exact zt rfl | refine zW ?_ ?_ | refine zm rfl ?_ | refine zm zl ?_ | refine zm zb ?_));done) | exact zd4 rfl | (refine RowV.of_flat ?_;(repeat' (first | exact zh zS | exact zap | exact zh (fun _=>rfl) | exact zh (fun _=>zl) | exact zh (fun _=>zb) | exact zt zl | exact zt zb | exact zas rfl | exact zar | exact zt rfl | refine zW ?_ ?_ | refine zm rfl ?_ | refine zm zl ?_ | refine zm zb ?_));done) | ((repeat' (first | exact zh zS | exact zap | exact zh (fun _=>rfl) | exact zh (fun _=>zl) | exact zh (fun _=>zb) | exact zt zl | exact zt zb | exact zas rfl | exact zar | exact zt rfl | refine zW ?_ ?_ | refine zm rfl ?_ | refine zm zl ?_ | refine zm zb ?_));done) | exact zgr rfl rfl (by omega) | exact zai rfl rfl (by omega) | exact zd8 rfl rfl (by omega) | exact zgo (fun _=>rfl) | exact zH (fun _=>rfl) (by decide) ⟨rfl,rfl⟩ trivial | exact zH (fun _=>rfl) (by decide) (fun _ _=>⟨rfl,rfl⟩) trivial | (simp;done));done) | exact zhj (fun _=>rfl) | exact Vw.it _ _ rfl | exact Vw.mp _ _ _ _ rfl | exact zH zS (by decide) ⟨rfl,rfl⟩ trivial | exact zH zS (by decide) (fun _ _=>⟨rfl,rfl⟩) trivial | (refine zj1 rfl ?_;(repeat' (first | exact zh zS | exact zap | exact zh (fun _=>rfl) | exact zh (fun _=>zl) | exact zh (fun _=>zb) | exact zt zl | exact zt zb | exact zas rfl | exact zar | exact zt rfl | refine zW ?_ ?_ | refine zm rfl ?_ | refine zm zl ?_ | refine zm zb ?_));done) | exact zd4 rfl | (refine RowV.of_flat ?_;(repeat' (first | exact zh zS | exact zap | exact zh (fun _=>rfl) | exact zh (fun _=>zl) | exact zh (fun _=>zb) | exact zt zl | exact zt zb | exact zas rfl | exact zar | exact zt rfl | refine zW ?_ ?_ | refine zm rfl ?_ | refine zm zl ?_ | refine zm zb ?_));done) | ((repeat' (first | exact zh zS | exact zap | exact zh (fun _=>rfl) | exact zh (fun _=>zl) | exact zh (fun _=>zb) | exact zt zl | exact zt zb | exact zas rfl | exact zar | exact zt rfl | refine zW ?_ ?_ | refine zm rfl ?_ | refine zm zl ?_ | refine zm zb ?_));done) | exact zgr rfl rfl (by omega) | exact zai rfl rfl (by omega) | exact zd8 rfl rfl (by omega) | exact zgo (fun _=>rfl) | exact zH (fun _=>rfl) (by decide) ⟨rfl,rfl⟩ trivial | exact zH (fun _=>rfl) (by decide) (fun _ _=>⟨rfl,rfl⟩) trivial | (simp;done)))
 ·
  obtain ⟨i,rfl⟩:∃ k,i=k+1:=⟨i - 1,by omega⟩
  have hil:i < sts.length:=by omega
  have hgl:=zp (f:=St.cells) (d:=[]) hil
  have ei:((i+1:Nat):Int) - 1=i:=by omega
  have hat:=zzF (exit:=exit) (a:=a0) hil
  have hl0:=hlk i
  have hci:=zo7 (k:=exit.length) hil
  have hc0:=zmB (k:=exit.length) (l:=sts) (i:=i)
  have hrem:=zh3 sts[i] (keepM exit (sts.drop (i+1)) a0).2
  have hbk:=zht (keepM exit (sts.drop (i+1)) a0).2 sts[i] exit k1 (hsz _ (List.getElem_mem hil)) (by omega) (by omega)
  generalize keepM exit (sts.drop (i+1)) a0=R at *
  obtain ⟨kp,a⟩:=R
  simp only at hrem hbk hli k1 k2 k3 hat
  (repeat first | simp (disch:=try exact dis1) only [evD,Nat.reduceBEq,Nat.reduceAdd,Nat.reduceLeDiff,ei,dT,zeX,List.cons_append,List.nil_append,hgl,St.len,St.eight] | with_reducible intro _ | ((with_reducible apply And.intro);omega))
  refine zX [(0,5,0)] 1 _ (hrem) rfl rfl fin8 fin8 ?_
  rintro _ _ _ ⟨rfl,rfl,rfl⟩
  cases hx:remS sts[i] a.keys with
  |
   true =>
   rw [hx,if_pos rfl] at hat
   have hbt:(m0||decide (kp.length < sts.length - i))=true:=by rw [decide_eq_true (by omega)];simp
   (repeat first | simp (disch:=try exact dis1) only [evD,Nat.reduceBEq,Nat.reduceAdd,Nat.reduceLeDiff,renM] | with_reducible intro _ | ((with_reducible apply And.intro);omega))
   refine ⟨i,by omega,by omega,?_⟩
   exact (Ent.tab [(0,0,0),(1,1,0),(2,2,0),(3,3,0),(4,4,0),(5,5,0),(6,6,0)] [] rfl (by (try simp only [evWB,Nat.reduceBEq,Nat.reduceAdd,Nat.reduceSub,Nat.reduceLeDiff,Nat.reduceLT,implies_true,zeX,famS,hat,hbt,List.cons_append,List.nil_append])<;>exact fin8) (by (try simp only [evWB,Nat.reduceBEq,Nat.reduceAdd,Nat.reduceSub,Nat.reduceLeDiff,Nat.reduceLT,implies_true,zeX,famS,hat,hbt,List.cons_append,List.nil_append])<;>exact fin8))
  |
   false =>
   rw [hx,if_neg (by simp)] at hat
   (repeat first | simp (disch:=try exact dis1) only [evD,Nat.reduceBEq,Nat.reduceAdd,Nat.reduceLeDiff,renM,hgl,St.len,St.eight] | with_reducible intro _ | ((with_reducible apply And.intro);omega))
   refine zX [(0,5,0)] 1 _ (hbk) rfl rfl fin8 fin8 ?_
   rintro _ _ _ ⟨rfl,rfl,rfl⟩
   have hkl:kp.reverse.length=kp.length:=List.length_reverse
   have htk:(kp.reverse.map St.cells).take kp.length=kp.reverse.map St.cells:=List.take_of_length_le (by rw [List.length_map,hkl];omega)
   have hbt:decide (kp.length+1 < sts.length - i)=decide (kp.length < sts.length - (i+1)):=decide_eq_decide.2 (by omega)
   (repeat first | simp (disch:=try exact dis1) only [evD,Nat.reduceBEq,Nat.reduceAdd,Nat.reduceLeDiff,renM,hgl,St.len,St.eight,hkl,htk] | with_reducible intro _ | ((with_reducible apply And.intro);omega))
   refine ⟨i,by omega,by omega,?_⟩
   exact (Ent.tab [(0,0,0),(1,1,0),(2,2,0),(3,3,0),(4,4,0),(5,5,0),(6,6,1)] [] rfl (by (try simp only [evWB,Nat.reduceBEq,Nat.reduceAdd,Nat.reduceSub,Nat.reduceLeDiff,Nat.reduceLT,implies_true,zeX,famS,hat,hbt,List.cons_append,List.nil_append,List.length_cons,List.reverse_cons,List.map_append,List.map_cons,List.map_nil])<;>exact fin8) (by (try simp only [evWB,Nat.reduceBEq,Nat.reduceAdd,Nat.reduceSub,Nat.reduceLeDiff,Nat.reduceLT,implies_true,zeX,famS,hat,hbt,List.cons_append,List.nil_append,List.length_cons,List.reverse_cons,List.map_append,List.map_cons,List.map_nil])<;>exact fin8))
def zby (exit:List Int) (bl:List Bl) (i:Nat):List Bl:=bl.mapIdx fun j b=>if j < i then blkD exit bl j b else b
theorem zdL {exit:List Int} {bl:List Bl} {i:Nat}:(zby exit bl i).length=bl.length:=by simp [zby]
theorem ztt {exit:List Int} {bl:List Bl}:zby exit bl 0=bl:=by
 apply List.ext_getElem
 · exact zdL
 · intro k h1 h2;simp [zby]
theorem zs8 {exit:List Int} {bl:List Bl}:zby exit bl bl.length=zbR exit bl:=by
 apply List.ext_getElem
 · rw [zdL,zdP]
 ·
  intro k h1 h2
  rw [zdL] at h1
  simp [zby,zbR,h1]
theorem zvW {exit:List Int} {bl:List Bl} {i:Nat} (h:i < bl.length):(zby exit bl i)[i]'(by rw [zdL];exact h)=bl[i]:=by simp [zby]
theorem zvj {exit:List Int} {bl:List Bl} {i:Nat} (h:i < bl.length):(zby exit bl i).set i ⟨bl[i].addr,(keepD exit bl[i].stmts (zM exit bl i)).1⟩=zby exit bl (i+1):=by
 apply List.ext_getElem
 · simp [zby]
 ·
  intro k h1 h2
  rw [zdL] at h2
  rw [List.getElem_set]
  by_cases hk:i=k
  ·
   subst hk
   simp [zby,blkD]
  ·
   rw [if_neg hk]
   simp only [zby,List.getElem_mapIdx]
   by_cases hl:k < i
   · rw [if_pos hl,if_pos (by omega)]
   · rw [if_neg hl,if_neg (by omega)]
theorem zoI {exit:List Int} {bl:List Bl} {i:Nat}:SubB (zby exit bl i) bl:=by
 refine ⟨zdL,fun k h1 h2=>?_⟩
 simp only [zby,List.getElem_mapIdx]
 split
 · exact ⟨rfl,zgH _⟩
 · exact ⟨rfl,List.Sublist.refl _⟩
theorem zpu {b:Bl}:∀ {l:List Bl} {i:Nat} (h:i < l.length),zo (l.set i b)+l[i].stmts.length=zo l+b.stmts.length
 | x::l,0,h=>by simp only [zo,List.set_cons_zero,List.map_cons,List.sum_cons,List.getElem_cons_zero];omega
 |
  x::l,i+1,h=>by
  have:=zpu (b:=b) (l:=l) (i:=i) (by simpa using h)
  simp only [zo,List.set_cons_succ,List.map_cons,List.sum_cons,List.getElem_cons_succ] at *
  omega
theorem zvU {exit:List Int} {x:List Bl}:zmr exit x=if zo (zbR exit x)=zo x then x else zmr exit (zbR exit x):=by
 unfold zmr
 rw [zjU]
 split
 · rfl
 ·
  have:=(zbT (exit:=exit) (bl:=x)).count
  exact zpk _ _ _ (by omega) (by omega)
theorem zBS {Q:QT} (ad:Int) (bl:List Bl) (exit U:List Int) (hU:GoodB U exit bl) (S T:Nat→MS) (hE:EndB U exit bl S T) (r0:Nat) (hr0:r0+zo bl≤1000000)
  (hfin:∀ K H nx,Ent 0 K H nx [(1,za exit),(4, .ptr 0 0 0 0 0),(8, .ptr 1 0 0 0 0),(9, .int .i64 ((r0+(zo bl - zo (zbR exit bl)):Nat):Int)),(10, .bool (decide (zo (zbR exit bl) < zo bl)))]
   [(0, .row 2 [[.int .u32 0, .nilsl]] 0),(1, .row 2 [[.int .u32 ad, .own 2 0 0 0 bl.length]] 0),(2, .row 2 ((zbR exit bl).map Bl.cells) 0)] 3→Q .normal K H nx)
  {K:Kn} {H:AH} {nx:Nat} (hent:Ent 0 K H nx [(1,za exit),(4, .ptr 0 0 0 0 0),(8, .ptr 1 0 0 0 0),(9, .int .i64 r0),(10, .bool false),(12, .own 3 0 0 0 bl.length),(35, .int .i64 bl.length),(36, .int .i64 0)] (zeX ad bl.length bl T) 5) :
  zhW Tryz.prog 0 zcS (zaZ 2 Q) K H nx:=by
 have hB:=hBig
 have hlen:=hU.len
 refine zg (fun i:Nat=>([(1,za exit),(4, .ptr 0 0 0 0 0),(8, .ptr 1 0 0 0 0),(9, .int .i64 ((r0+(zo bl - zo (zby exit bl i)):Nat):Int)),(10, .bool (decide (zo (zby exit bl i) < zo bl))),(12, .own 3 0 0 0 bl.length),(35, .int .i64 bl.length),(36, .int .i64 i)],zeX ad bl.length (zby exit bl i) T)) 5
  (fun i=>i≤bl.length) (fun i=>bl.length - i) 0 (Nat.zero_le _) ?_ ?_
 ·
  rw [ztt]
  simp only [Nat.sub_self,Nat.lt_irrefl,decide_false,Nat.add_zero]
  exact hent
 rintro i hi wf
 unfold zcS
 by_cases hil:i < bl.length
 ·
  have hm:=List.getElem_mem hil
  have hDl:=zdL (exit:=exit) (bl:=bl) (i:=i)
  have hDi:=zvW (exit:=exit) hil
  have hDs:=zvj (exit:=exit) hil
  have hDc:=(zoI (exit:=exit) (bl:=bl) (i:=i)).count
  have hcs:=zpu (b:=⟨bl[i].addr,(keepD exit bl[i].stmts (zM exit bl i)).1⟩) (l:=zby exit bl i) (i:=i) (by omega)
  rw [hDs,hDi] at hcs
  simp only at hcs
  have hDc1:=(zoI (exit:=exit) (bl:=bl) (i:=i+1)).count
  have hT:=hE.t i
  have hTl:=hT.len
  have hks:zcm ((T i).2.map (·.1))=zM exit bl i:=hE.keyT hil
  have hkl:(zM exit bl i).length=(T i).2.length:=by rw [← hks,(z8 _).length_eq,List.length_map]
  have hcost:=hU.cost _ hm
  have hok:(addL (0,[]) (zM exit bl i)).ok:=zj6 znk (by simp only;omega) (by simp only [List.length_nil];omega)
  have hbd:=zc7 (l:=zM exit bl i) (s:=(0,[]))
  simp only [List.length_nil] at hbd
  have hkeys:∀ x,x∈(addL (0,[]) (zM exit bl i)).keys↔x∈zM exit bl i:=fun x=>by rw [zd3];simp [MS.keys]
  obtain ⟨hkp,_⟩:=zq7 (exit:=exit) hkeys bl[i].stmts
  have hll:=(zgH (exit:=exit) (e:=zM exit bl i) bl[i].stmts).length_le
  have hstl:=ziT hm
  have hl0:=fun (Q:QT)=>zBK (Q:=Q) ad bl.length i hil hlen (zby exit bl i) hDl T exit bl[i].stmts (addL (0,[]) (zM exit bl i)) (r0+(zo bl - zo (zby exit bl i))) (decide (zo (zby exit bl i) < zo bl)) (fun s hs=>(hU.hsz _ hm s hs).1) hok (by omega) (by omega) (by omega) (by omega)
  simp only [hDi] at hl0
  rw [hkp,hDs] at hl0
  have hg:((zby exit bl i).map Bl.cells).getD i []=[.int .u32 bl[i].addr,encL 8 St.cells bl[i].stmts]:=by
   have:=zp (f:=Bl.cells) (d:=[]) (l:=zby exit bl i) (i:=i) (by omega)
   rw [hDi] at this
   exact this
  have hDml:((zby exit bl i).map Bl.cells).length=bl.length:=by rw [List.length_map,hDl]
  have hsa:=zgJ (0,[]) (zM exit bl i) znk (by simp only;omega) (by simp only [List.length_nil];omega)
  generalize addL (0,[]) (zM exit bl i)=a0 at *
  generalize zM exit bl i=lo at *
  clear hDi hDs hDl
  generalize hD:zby exit bl i=D at *
  (repeat first | simp (disch:=try exact dis1) only [evD,Nat.reduceBEq,Nat.reduceAdd,Nat.reduceLeDiff,dT,zeX,za,zgf,zep hil] | with_reducible intro _ | ((with_reducible apply And.intro);omega))
  refine zX [(0,4,0)] 1 _ (zck bl.length i hil T hT.ok) rfl rfl (by (try simp only [evWB,Nat.reduceBEq,Nat.reduceAdd,Nat.reduceSub,Nat.reduceLeDiff,Nat.reduceLT,implies_true,famS])<;>exact fin8) (by (try simp only [evWB,Nat.reduceBEq,Nat.reduceAdd,Nat.reduceSub,Nat.reduceLeDiff,Nat.reduceLT,implies_true,famS])<;>exact fin8) ?_
  rintro _ _ _ ⟨rfl,rfl,rfl⟩
  (repeat first | simp (disch:=try exact dis1) only [evD,Nat.reduceBEq,Nat.reduceAdd,Nat.reduceLeDiff,renE,renF,hks,za,zgf,zep hil] | with_reducible intro _ | ((with_reducible apply And.intro);omega))
  refine zX [(0,5,0)] 1 _ (hsa) rfl rfl (by (try simp only [evWB,Nat.reduceBEq,Nat.reduceAdd,Nat.reduceSub,Nat.reduceLeDiff,Nat.reduceLT,implies_true,zw])<;>exact fin8) (by (try simp only [evWB,Nat.reduceBEq,Nat.reduceAdd,Nat.reduceSub,Nat.reduceLeDiff,Nat.reduceLT,implies_true,zw])<;>exact fin8) ?_
  rintro _ _ _ ⟨rfl,rfl,rfl⟩
  (repeat first | simp (disch:=try exact dis1) only [evD,Nat.reduceBEq,Nat.reduceAdd,Nat.reduceLeDiff,renM,za,hg,hDml] | with_reducible intro _ | ((with_reducible apply And.intro);omega))
  refine hl0 _ ?_ ?_
  ·
   intro K2 H2 nx2 he
   refine ⟨i+1,by omega,by show bl.length - (i+1) < bl.length - i;omega,?_⟩
   have e1:r0+(zo bl - zo D)+(bl[i].stmts.length - (keepD exit bl[i].stmts lo).1.length)=r0+(zo bl - zo (zby exit bl (i+1))):=by omega
   have e2:(decide (zo D < zo bl)||decide ((keepD exit bl[i].stmts lo).1.length < bl[i].stmts.length))=decide (zo (zby exit bl (i+1)) < zo bl):=by
    rw [← Bool.decide_or]
    exact decide_eq_decide.2 (by omega)
   rw [e1,e2] at he
   exact he
  · exact (Ent.tab [(0,0,0),(1,1,0),(2,2,0),(3,3,0),(4,4,0),(5,5,0),(6,8,0)] [] rfl (by (try simp only [evWB,Nat.reduceBEq,Nat.reduceAdd,Nat.reduceSub,Nat.reduceLeDiff,Nat.reduceLT,implies_true,zeX,famS,List.cons_append,List.nil_append])<;>exact fin8) (by (try simp only [evWB,Nat.reduceBEq,Nat.reduceAdd,Nat.reduceSub,Nat.reduceLeDiff,Nat.reduceLT,implies_true,zeX,famS,List.cons_append,List.nil_append])<;>exact fin8))
 ·
  obtain rfl:i=bl.length:=by omega
  rw [zs8]
  (repeat first | simp (disch:=try exact dis1) only [evD,Nat.reduceBEq,Nat.reduceAdd,Nat.reduceLeDiff,dF] | with_reducible intro _ | ((with_reducible apply And.intro);omega))
  refine hfin _ _ _ ?_
  exact (Ent.tab [(0,0,0),(1,1,0),(2,2,0)] [] rfl (by (try simp only [evWB,Nat.reduceBEq,Nat.reduceAdd,Nat.reduceSub,Nat.reduceLeDiff,Nat.reduceLT,implies_true,zeX,famS,za])<;>exact fin8) (by (try simp only [evWB,Nat.reduceBEq,Nat.reduceAdd,Nat.reduceSub,Nat.reduceLeDiff,Nat.reduceLT,implies_true,zeX,famS,za])<;>exact fin8))
theorem zuu {F n g:Nat}:AObj.refs (.row 1 (mps F n) g):=by
 intro c hc
 obtain ⟨i,_,rfl⟩:=List.mem_map.1 hc
 rfl
theorem zA9 (a:MC):(cm a).all AV.ref0=true:=by
 unfold cm
 split<;>rfl
theorem zrw {n:Nat} {S:Nat→MS}:AObj.refs (famS n S):=by
 intro p hp
 unfold fi at hp
 obtain ⟨i,_,rfl⟩:=List.mem_map.1 hp
 exact zzU zA9
theorem zzC {n:Nat} {S T:Nat→MS}:AH.refs (bdH n S T):=⟨zuu,zuu,zrw,zrw,trivial⟩
structure RunD (U exit:List Int) (bl0 R x:List Bl) (m:Bool):Prop where
 good:GoodB U exit x
 len:x.length=bl0.length
 cnt:zo x≤zo bl0
 go:zmr exit x=R
 done:m=false→x=R
theorem RunD.next {U exit:List Int} {bl0 R x:List Bl} (h:RunD U exit bl0 R x true) :
  RunD U exit bl0 R (zbR exit x) (decide (zo (zbR exit x) < zo x))∧2 * zo (zbR exit x)+(bif decide (zo (zbR exit x) < zo x) then 1 else 0) < 2 * zo x+(bif true then 1 else 0):=by
 have hc:=(zbT (exit:=exit) (bl:=x)).count
 have hg:=h.go
 have hn:=h.cnt
 rw [zvU] at hg
 refine ⟨⟨h.good.sub zbT,by rw [zdP];exact h.len,by omega,?_,fun hm=>?_⟩,?_⟩
 ·
  split at hg
  ·
   rename_i he
   rw [zbT.same he]
   exact h.go
  · exact hg
 ·
  have hm:=of_decide_eq_false hm
  rw [if_pos (by omega)] at hg
  rw [zbT.same (by omega)]
  exact hg
 ·
  by_cases hlt:zo (zbR exit x) < zo x
  ·
   rw [decide_eq_true hlt]
   simp only [cond_true]
   omega
  ·
   rw [decide_eq_false hlt]
   simp only [cond_true,cond_false]
   omega
theorem zBb {Q:QT} (ad:Int) (bl0 R:List Bl) (exit U:List Int)
  (hcnt:zo bl0≤1000000)
  (hfin:wpX Tryz.prog 0 zbL Q [(4, .ptr 0 0 0 0 0),(8, .ptr 1 0 0 0 0),(9, .int .i64 ((zo bl0 - zo R:Nat):Int)),(26, .bool false)]
   [(0, .row 2 [[.int .u32 0, .nilsl]] 0),(1, .row 2 [[.int .u32 ad, .own 2 0 0 0 bl0.length]] 0),(2, .row 2 (R.map Bl.cells) 0)] 3)
  {K:Kn} {H:AH} {nx:Nat} (hrun:RunD U exit bl0 R bl0 true) (hent:Ent 0 K H nx [(1,za exit),(4, .ptr 0 0 0 0 0),(8, .ptr 1 0 0 0 0),(9, .int .i64 0),(10, .bool true)]
   [(0, .row 2 [[.int .u32 0, .nilsl]] 0),(1, .row 2 [[.int .u32 ad, .own 2 0 0 0 bl0.length]] 0),(2, .row 2 (bl0.map Bl.cells) 0)] 3) :
  zhW Tryz.prog 0 zcO (zaZ 0 (seqQ Tryz.prog 0 zbL Q)) K H nx:=by
 have hB:=hBig
 refine zg (fun a:List Bl × Bool=>([(1,za exit),(4, .ptr 0 0 0 0 0),(8, .ptr 1 0 0 0 0),(9, .int .i64 ((zo bl0 - zo a.1:Nat):Int)),(10, .bool a.2)],
   [(0, .row 2 [[.int .u32 0, .nilsl]] 0),(1, .row 2 [[.int .u32 ad, .own 2 0 0 0 bl0.length]] 0),(2, .row 2 (a.1.map Bl.cells) 0)])) 3
  (fun a=>RunD U exit bl0 R a.1 a.2) (fun a=>2 * zo a.1+(bif a.2 then 1 else 0)) (bl0,true) hrun ?_ ?_
 ·
  simp only [Nat.sub_self]
  exact hent
 rintro ⟨x,m⟩ hrn wf
 simp only at hrn
 unfold zcO
 cases m with
 |
  false =>
  obtain rfl:=hrn.done rfl
  (repeat first | simp (disch:=try exact dis1) only [evD,Nat.reduceBEq,Nat.reduceAdd,Nat.reduceLeDiff] | with_reducible intro _ | ((with_reducible apply And.intro);omega))
  exact hfin
 |
  true =>
  obtain ⟨n1,n2⟩:=hrn.next
  have hxl:=hrn.len
  have hxc:=hrn.cnt
  have hbd:=zkj ⟨ad,x⟩ exit U hrn.good.univ
  have hxb:=hrn.good.len
  have hml:(x.map Bl.cells).length=x.length:=List.length_map _
  (repeat first | simp (disch:=try exact dis1) only [evD,Nat.reduceBEq,Nat.reduceAdd,Nat.reduceLeDiff] | with_reducible intro _ | ((with_reducible apply And.intro);omega))
  refine zu6 (D:=inD [2]) hbd (.cons (.agg _ _ _ rfl (fun j a c h1 h2=>?_)) (.cons (zT rfl) .nil)) ?_ ?_
  ·
   match j with
   | 0=>cases h1;cases h2;exact .int _ _ _
   | 1=>cases h1;cases h2;rw [← hxl];exact zuD rfl rfl (by omega)
   | j+2=>cases h1
  ·
   rintro _ _ _ ⟨S,T,rfl,rfl,rfl,_⟩
   exact ⟨rfl,zzC⟩
  rintro _ _ _ ⟨S,T,rfl,rfl,rfl,hend⟩
  simp only at hend
  (repeat first | simp (disch:=try exact dis1) only [evD,Nat.reduceBEq,Nat.reduceAdd,Nat.reduceLeDiff,bdH,renP,renF] | with_reducible intro _ | ((with_reducible apply And.intro);omega))
  refine zBS ad x exit U hrn.good S T hend (zo bl0 - zo x) (by omega) ?_ ?_
  ·
   intro K2 H2 nx2 he
   refine ⟨(zbR exit x,_),n1,n2,?_⟩
   have hc:=(zbT (exit:=exit) (bl:=x)).count
   have e1:zo bl0 - zo x+(zo x - zo (zbR exit x))=zo bl0 - zo (zbR exit x):=by omega
   rw [e1,hxl] at he
   exact he
  ·
   rw [hxl]
   exact (Ent.tab [(0,0,0),(1,1,0),(2,2,0),(3,4,0),(4,6,0)] [] rfl (by (try simp only [evWB,Nat.reduceBEq,Nat.reduceAdd,Nat.reduceSub,Nat.reduceLeDiff,Nat.reduceLT,implies_true,zeX,famS])<;>exact fin8) (by (try simp only [evWB,Nat.reduceBEq,Nat.reduceAdd,Nat.reduceSub,Nat.reduceLeDiff,Nat.reduceLT,implies_true,zeX,famS])<;>exact fin8))
def zv4 (g:G) (exit:List Int):AV:=if zdz g=0 then .tup [.agg (G.cells ⟨g.addr,zmr exit g.blocks⟩), .int .i64 ((zo g.blocks - zo (zmr exit g.blocks):Nat):Int), .int .i64 0] else .tup [.agg (G.cells ⟨0,[]⟩), .int .i64 0, .int .i64 (zdz g)]
theorem zrW {exit:List Int} {bl:List Bl}:(zmr exit bl).length=bl.length:=(zr5 _ _).1
theorem zem (g:G) (exit U:List Int) (hU:GoodB U exit g.blocks) (hf:fewB g):zz Tryz.prog zce [.agg g.cells,za exit] (·=zv4 g exit):=by
 refine fn_x zmp rfl ?_
 unfold zhG zv4
 have hB:=hBig
 have hcg:=zmf g hf (fun b hb s hs=>by have:=(hU.hsz b hb s hs).2;omega)
 have hcp:=zxl g hU.len (fun b hb=>Nat.le_trans (ziT hb) hU.cnt) (fun b hb s hs=>⟨(hU.hsz b hb s hs).1,by have:=(hU.hsz b hb s hs).2;omega⟩)
 have hpl:=zrW (exit:=exit) (bl:=g.blocks)
 have hlen:=hU.len
 have hcnt:=hU.cnt
 obtain ⟨ad,bl⟩:=g
 simp only [G.cells] at hcg hcp hpl hU hlen hcnt ⊢
 (repeat first | simp (disch:=try exact dis1) only [evD,Nat.reduceBEq,Nat.reduceAdd,Nat.reduceLeDiff,fldP,za,zls,tab,List.getD_cons_zero,List.getD_cons_succ] | with_reducible intro _ | ((with_reducible apply And.intro);omega))
 refine zi (zk hcg rfl) ?_
 by_cases hc:zdz ⟨ad,bl⟩=0
 ·
  rw [if_pos hc,hc]
  (repeat first | simp (disch:=try exact dis1) only [evD,Nat.reduceBEq,Nat.reduceAdd,Nat.reduceLeDiff,dF,fldP,za,zls,tab,List.getD_cons_zero,List.getD_cons_succ] | with_reducible intro _ | ((with_reducible apply And.intro);omega))
  refine zX [] 0 _ (hcp) rfl rfl fin9 fin9 ?_
  rintro _ _ _ ⟨rfl,rfl,rfl⟩
  have hrb:∀ {ρ:Nat→Nat} {l:List Bl} {g:Nat},AObj.ren ρ (.row 2 (l.map Bl.cells) g)=.row 2 (l.map Bl.cells) g:=fun {ρ l g}=>by
   simp only [AObj.ren]
   rw [zg2 (zh fun s=>rfl)]
  (repeat first | simp (disch:=try exact dis1) only [evD,Nat.reduceBEq,Nat.reduceAdd,Nat.reduceLeDiff,hrb] | with_reducible intro _ | ((with_reducible apply And.intro);omega))
  refine zBb ad bl (zmr exit bl) exit U hcnt ?_ ⟨hU,rfl,Nat.le_refl _,rfl,fun h=>by cases h⟩ ?_
  ·
   unfold zbL
   (repeat first | simp (disch:=try exact dis1) only [evD,Nat.reduceBEq,Nat.reduceAdd,Nat.reduceLeDiff,zej] | with_reducible intro _ | ((with_reducible apply And.intro);omega))
   refine ⟨.tup [.agg [.int .u32 ad,encL 2 Bl.cells (zmr exit bl)], .int .i64 ((zo bl - zo (zmr exit bl):Nat):Int), .int .i64 0], .tup _ _ _ rfl (fun j a c h1 h2=>?_),rfl⟩
   match j with
   |
    0 =>
    cases h1;cases h2
    refine .agg _ _ _ rfl (fun j a c h1 h2=>?_)
    match j with
    | 0=>cases h1;cases h2;exact .int _ _ _
    | 1=>cases h1;cases h2;rw [← hpl];exact zuD trivial rfl (by omega)
    | j+2=>cases h1
   | 1=>cases h1;cases h2;exact .int _ _ _
   | 2=>cases h1;cases h2;exact .int _ _ _
   | j+3=>cases h1
  · exact (Ent.tab [(0,0,0),(1,2,0),(2,1,0)] [] rfl (by (try simp only [evWB,Nat.reduceBEq,Nat.reduceAdd,Nat.reduceSub,Nat.reduceLeDiff,Nat.reduceLT,implies_true,za])<;>exact fin2) (by (try simp only [evWB,Nat.reduceBEq,Nat.reduceAdd,Nat.reduceSub,Nat.reduceLeDiff,Nat.reduceLT,implies_true,za])<;>exact fin2))
 ·
  rw [if_neg hc]
  (repeat first | simp (disch:=try exact dis1) only [evD,Nat.reduceBEq,Nat.reduceAdd,Nat.reduceLeDiff,fldP,dT,za,zej] | with_reducible intro _ | ((with_reducible apply And.intro);omega))
  refine ⟨.tup [.agg [.int .u32 0,encL 2 Bl.cells []], .int .i64 0, .int .i64 (zdz ⟨ad,bl⟩)], .tup _ _ _ rfl (fun j a c h1 h2=>?_),rfl⟩
  match j with
  |
   0 =>
   cases h1;cases h2
   refine .agg _ _ _ rfl (fun j a c h1 h2=>?_)
   match j with
   | 0=>cases h1;cases h2;exact .int _ _ _
   | 1=>cases h1;cases h2;exact .nil0 _ _ _
   | j+2=>cases h1
  | 1=>cases h1;cases h2;exact .int _ _ _
  | 2=>cases h1;cases h2;exact .int _ _ _
  | j+3=>cases h1
end Go.Ab
