/-
  Part 9 of the proof: how the calls of this program run, over values instead of memory, and what each function computes.
-/
import Derived.Test.YtdhlfajcofgpkaaGreatKh
set_option maxRecDepth 100000
set_option linter.unusedVariables false
set_option linter.unusedSimpArgs false
set_option linter.unnecessarySimpa false
set_option linter.unusedSectionVars false
namespace Go.Ab
open Go.RowKit Go.Proofs
structure SetS (c:Int) (ps:List (Int × Int)):Prop where
 keys:(ps.map (·.1)).Nodup
 borns:(ps.map (·.2)).Nodup
 lt:∀ p∈ps,p.2 < c
 top:c≤1000000
 len:ps.length≤1000000
theorem zut {ps sel:List (Int × Int)} (h1:sel.Nodup) (h2:ps.Nodup) (h3:∀ p∈sel,p∈ps) (h4:∀ p∈ps,p∈sel):sel.Perm ps :=
 List.perm_iff_count.2 fun a=>by
  by_cases ha:a∈ps
  · rw [List.Nodup.count h1,List.Nodup.count h2,if_pos ha,if_pos (h4 a ha)]
  · rw [List.Nodup.count h1,List.Nodup.count h2,if_neg ha,if_neg (fun h=>ha (h3 a h))]
theorem zmH (c:Int) (ps:List (Int × Int)) (hs:SetS c ps):zad Tryz.prog zc [.mp 0 0] [(0, .row 3 ((setM c ps).map cm) 0)] 1
  (fun v H nx=>v=za (zcm (ps.map (·.1)))∧H=[(0, .row 3 ((setM c ps).map cm) 0)]∧nx=1):=by
 refine zbZ (fn_x zeC rfl ?_)
 unfold zcu
 have hB:=hBig
 have htop:=hs.top
 have hlen:=hs.len
 (repeat first | simp (disch:=try exact dis1) only [evD,Nat.reduceBEq,Nat.reduceAdd,Nat.reduceLeDiff,evM,zw,zqF] | with_reducible intro _ | ((with_reducible apply And.intro);omega))
 refine zg (fun sel:List (Int × Int)=>([(3, .own 1 0 0 0 sel.length),(6, .it 2)],[(0, .row 3 ((setM c ps).map cm) 0),(1, .row 1 (sel.map fun p=>cI p.1) 0),(2, .row 1 ([.mp 0 0]::[.int .i64 c]::[.int .i64 c]::sel.map fun p=>[.int .i64 p.2]) 0)])) 3
  (fun sel=>sel.Nodup∧∀ p∈sel,p∈ps) (fun sel=>ps.length - sel.length) [] ⟨List.nodup_nil,fun p h=>by cases h⟩ (Ent.tabB [(0,0,0),(1,2,0),(2,3,0)] [] rfl rfl rfl (by (try simp only [evWB,Nat.reduceBEq,Nat.reduceAdd,Nat.reduceSub,Nat.reduceLeDiff,Nat.reduceLT,implies_true,zw])<;>exact fin8) (by (try simp only [evWB,Nat.reduceBEq,Nat.reduceAdd,Nat.reduceSub,Nat.reduceLeDiff,Nat.reduceLT,implies_true,zw])<;>exact fin8)) ?_
 rintro sel ⟨hnd,hsub⟩ wf
 have hpn:ps.Nodup:=zh0 hs.keys
 have hsl:sel.length≤ps.length:=List.Nodup.length_le_of_subset hnd hsub
 unfold zbO
 (repeat first | simp (disch:=try exact dis1) only [evD,Nat.reduceBEq,Nat.reduceAdd,Nat.reduceLeDiff] | with_reducible intro _ | ((with_reducible apply And.intro);omega))
 refine zuy (ps:=ps) (sel:=sel) (c:=c) rfl rfl (by omega) hs.lt hs.borns hsub (fun hall=>?_) (fun p hp hns=>?_)
 ·
  have hperm:=zut hnd hpn hsub hall
  have hlen2:=hperm.length_eq
  (repeat first | simp (disch:=try exact dis1) only [evD,Nat.reduceBEq,Nat.reduceAdd,Nat.reduceLeDiff] | with_reducible intro _ | ((with_reducible apply And.intro);omega))
  have hsort:zcm (sel.map (·.1))=zcm (ps.map (·.1)):=zn8 (((z8 _).trans (hperm.map _)).trans (z8 _).symm) (zbI _) (zbI _)
  have hmm:(sel.map fun p=>cI p.1)=(sel.map (·.1)).map fun n=>[AV.int .i64 n]:=by rw [List.map_map];rfl
  rw [hmm]
  unfold zbN
  (repeat first | simp (disch:=try exact dis1) only [evD,Nat.reduceBEq,Nat.reduceAdd,Nat.reduceLeDiff] | with_reducible intro _ | ((with_reducible apply And.intro);omega))
  have hsc:=znF (H:=[(0, .row 3 ((setM c ps).map cm) 0),(1, .row 1 ((sel.map (·.1)).map fun n=>[AV.int .i64 n]) 0),(2, .row 1 ([.mp 0 0]::[.int .i64 c]::[.int .i64 c]::sel.map fun p=>[.int .i64 p.2]) 0)]) (nx:=3) (r:=1) (q:=0) (g:=0) (zs:=sel.map (·.1)) rfl (by rw [List.length_map];omega)
  rw [List.length_map] at hsc
  refine zlf hsc ?_
  rintro _ _ _ hres
  simp only [Prod.mk.injEq] at hres
  obtain ⟨rfl,rfl,rfl⟩:=hres
  have hl3:sel.length=(zcm (ps.map (·.1))).length:=by rw [(z8 _).length_eq,List.length_map];exact hlen2
  rw [hsort,hl3]
  generalize zcm (ps.map (·.1))=so at hl3 ⊢
  (repeat first | simp (disch:=try exact dis1) only [evD,Nat.reduceBEq,Nat.reduceAdd,Nat.reduceLeDiff,zcz] | with_reducible intro _ | ((with_reducible apply And.intro);omega))
  exact ⟨za so,[(0, .row 3 ((setM c ps).map cm) 0)],1,(Ent.tabB [(0,0,0)] [1] rfl rfl rfl (by (try simp only [evWB,Nat.reduceBEq,Nat.reduceAdd,Nat.reduceSub,Nat.reduceLeDiff,Nat.reduceLT,implies_true,zw])<;>exact fin8) (by (try simp only [evWB,Nat.reduceBEq,Nat.reduceAdd,Nat.reduceSub,Nat.reduceLeDiff,Nat.reduceLT,implies_true,zw])<;>exact fin8)),rfl,rfl,rfl⟩
 ·
  have hent:=fun (H:AH) (nx:Nat) (hr) (hm)=>zuo (H:=H) (nx:=nx) (r:=2) (rm:=0) (qm:=0) (c:=c) (since:=c) (sel:=sel) (p:=p) hr hm hs.borns hp
  (repeat first | simp (disch:=try exact dis1) only [evD,Nat.reduceBEq,Nat.reduceAdd,Nat.reduceLeDiff] | with_reducible intro _ | ((with_reducible apply And.intro);omega))
  rw [hent _ _ rfl rfl]
  (repeat first | simp (disch:=try exact dis1) only [evD,Nat.reduceBEq,Nat.reduceAdd,Nat.reduceLeDiff] | with_reducible intro _ | ((with_reducible apply And.intro);omega))
  refine ⟨sel++[p],⟨?_,?_⟩,?_,(Ent.tabB [(0,0,0),(1,1,1),(2,2,0)] [] rfl rfl rfl (by (try simp only [evWB,Nat.reduceBEq,Nat.reduceAdd,Nat.reduceSub,Nat.reduceLeDiff,Nat.reduceLT,implies_true,zw,List.length_append,List.length_singleton,List.map_append,List.map_cons,List.map_nil])<;>exact fin8) (by (try simp only [evWB,Nat.reduceBEq,Nat.reduceAdd,Nat.reduceSub,Nat.reduceLeDiff,Nat.reduceLT,implies_true,zw,List.length_append,List.length_singleton,List.map_append,List.map_cons,List.map_nil])<;>exact fin8))⟩
  ·
   rw [List.nodup_append]
   exact ⟨hnd,by simp,fun a ha b hb e=>hns (by rw [List.mem_singleton] at hb;rw [← hb,← e];exact ha)⟩
  ·
   intro a ha
   rcases List.mem_append.1 ha with ha | ha
   · exact hsub a ha
   · rw [List.mem_singleton] at ha;rw [ha];exact hp
  ·
   have:sel.length < ps.length:=by
    have:=List.Nodup.length_le_of_subset (List.nodup_cons.2 ⟨hns,hnd⟩) (show ∀ a∈p::sel,a∈ps from fun a ha=>by
     rcases List.mem_cons.1 ha with rfl | ha
     · exact hp
     · exact hsub a ha)
    simp only [List.length_cons] at this
    omega
   rw [List.length_append,List.length_singleton]
   omega
def famS (n:Nat) (S:Nat→Int × List (Int × Int)):AObj:=.fam 3 (fi cm n (fun i=>setM (S i).1 (S i).2) (fun _=>0))
theorem zzO {n k:Nat} {S:Nat→Int × List (Int × Int)} (hk:k < n) {t:AH}:AH.get ((0,famS n S)::t) 0 (k+1)=some (.row 3 ((setM (S k).1 (S k).2).map cm) 0):=by
 unfold AH.get famS
 simp only [AH.look,zaA,cond_true,Option.bind_some,AObj.part,zn6 hk,Option.map_some]
theorem zck (n k:Nat) (hk:k < n) (S:Nat→Int × List (Int × Int)) (hs:SetS (S k).1 (S k).2):zad Tryz.prog zc [.mp 0 (k+1)] [(0,famS n S)] 1
  (fun v H nx=>v=za (zcm ((S k).2.map (·.1)))∧H=[(0,famS n S)]∧nx=1):=by
 refine zbZ (fn_x zeC rfl ?_)
 unfold zcu
 have hB:=hBig
 have htop:=hs.top
 have hlen:=hs.len
 have hg:=@zzO n k S hk
 unfold famS at hg ⊢
 generalize hc:(S k).1=c at *
 generalize hps:(S k).2=ps at *
 (repeat first | simp (disch:=try exact dis1) only [evD,Nat.reduceBEq,Nat.reduceAdd,Nat.reduceLeDiff,evM,zn6 hk,hc,hps,zw,zqF] | with_reducible intro _ | ((with_reducible apply And.intro);omega))
 refine zg (fun sel:List (Int × Int)=>([(3, .own 1 0 0 0 sel.length),(6, .it 2)],[(0, .fam 3 (fi cm n (fun i=>setM (S i).1 (S i).2) (fun _=>0))),(1, .row 1 (sel.map fun p=>cI p.1) 0),(2, .row 1 ([.mp 0 (k+1)]::[.int .i64 c]::[.int .i64 c]::sel.map fun p=>[.int .i64 p.2]) 0)])) 3
  (fun sel=>sel.Nodup∧∀ p∈sel,p∈ps) (fun sel=>ps.length - sel.length) [] ⟨List.nodup_nil,fun p h=>by cases h⟩ (Ent.tabB [(0,0,0),(1,2,0),(2,3,0)] [] rfl rfl rfl (by (try simp only [evWB,Nat.reduceBEq,Nat.reduceAdd,Nat.reduceSub,Nat.reduceLeDiff,Nat.reduceLT,implies_true,zw])<;>exact fin8) (by (try simp only [evWB,Nat.reduceBEq,Nat.reduceAdd,Nat.reduceSub,Nat.reduceLeDiff,Nat.reduceLT,implies_true,zw])<;>exact fin8)) ?_
 rintro sel ⟨hnd,hsub⟩ wf
 have hpn:ps.Nodup:=zh0 hs.keys
 have hsl:sel.length≤ps.length:=List.Nodup.length_le_of_subset hnd hsub
 unfold zbO
 (repeat first | simp (disch:=try exact dis1) only [evD,Nat.reduceBEq,Nat.reduceAdd,Nat.reduceLeDiff] | with_reducible intro _ | ((with_reducible apply And.intro);omega))
 refine zuy (ps:=ps) (sel:=sel) (c:=c) rfl hg (by omega) hs.lt hs.borns hsub (fun hall=>?_) (fun p hp hns=>?_)
 ·
  have hperm:=zut hnd hpn hsub hall
  have hlen2:=hperm.length_eq
  (repeat first | simp (disch:=try exact dis1) only [evD,Nat.reduceBEq,Nat.reduceAdd,Nat.reduceLeDiff] | with_reducible intro _ | ((with_reducible apply And.intro);omega))
  have hsort:zcm (sel.map (·.1))=zcm (ps.map (·.1)):=zn8 (((z8 _).trans (hperm.map _)).trans (z8 _).symm) (zbI _) (zbI _)
  have hmm:(sel.map fun p=>cI p.1)=(sel.map (·.1)).map fun n=>[AV.int .i64 n]:=by rw [List.map_map];rfl
  rw [hmm]
  unfold zbN
  (repeat first | simp (disch:=try exact dis1) only [evD,Nat.reduceBEq,Nat.reduceAdd,Nat.reduceLeDiff] | with_reducible intro _ | ((with_reducible apply And.intro);omega))
  have hsc:=znF (H:=[(0, .fam 3 (fi cm n (fun i=>setM (S i).1 (S i).2) (fun _=>0))),(1, .row 1 ((sel.map (·.1)).map fun n=>[AV.int .i64 n]) 0),(2, .row 1 ([.mp 0 (k+1)]::[.int .i64 c]::[.int .i64 c]::sel.map fun p=>[.int .i64 p.2]) 0)]) (nx:=3) (r:=1) (q:=0) (g:=0) (zs:=sel.map (·.1)) rfl (by rw [List.length_map];omega)
  rw [List.length_map] at hsc
  refine zlf hsc ?_
  rintro _ _ _ hres
  simp only [Prod.mk.injEq] at hres
  obtain ⟨rfl,rfl,rfl⟩:=hres
  have hl3:sel.length=(zcm (ps.map (·.1))).length:=by rw [(z8 _).length_eq,List.length_map];exact hlen2
  rw [hsort,hl3]
  generalize zcm (ps.map (·.1))=so at hl3 ⊢
  (repeat first | simp (disch:=try exact dis1) only [evD,Nat.reduceBEq,Nat.reduceAdd,Nat.reduceLeDiff,zcz] | with_reducible intro _ | ((with_reducible apply And.intro);omega))
  exact ⟨za so,[(0, .fam 3 (fi cm n (fun i=>setM (S i).1 (S i).2) (fun _=>0)))],1,(Ent.tabB [(0,0,0)] [1] rfl rfl rfl (by (try simp only [evWB,Nat.reduceBEq,Nat.reduceAdd,Nat.reduceSub,Nat.reduceLeDiff,Nat.reduceLT,implies_true,zw])<;>exact fin8) (by (try simp only [evWB,Nat.reduceBEq,Nat.reduceAdd,Nat.reduceSub,Nat.reduceLeDiff,Nat.reduceLT,implies_true,zw])<;>exact fin8)),rfl,rfl,rfl⟩
 ·
  have hent:=fun (H:AH) (nx:Nat) (hr) (hm)=>zuo (H:=H) (nx:=nx) (r:=2) (rm:=0) (qm:=k+1) (c:=c) (since:=c) (sel:=sel) (p:=p) hr hm hs.borns hp
  (repeat first | simp (disch:=try exact dis1) only [evD,Nat.reduceBEq,Nat.reduceAdd,Nat.reduceLeDiff] | with_reducible intro _ | ((with_reducible apply And.intro);omega))
  rw [hent _ _ rfl hg]
  (repeat first | simp (disch:=try exact dis1) only [evD,Nat.reduceBEq,Nat.reduceAdd,Nat.reduceLeDiff] | with_reducible intro _ | ((with_reducible apply And.intro);omega))
  refine ⟨sel++[p],⟨?_,?_⟩,?_,(Ent.tabB [(0,0,0),(1,1,1),(2,2,0)] [] rfl rfl rfl (by (try simp only [evWB,Nat.reduceBEq,Nat.reduceAdd,Nat.reduceSub,Nat.reduceLeDiff,Nat.reduceLT,implies_true,zw,List.length_append,List.length_singleton,List.map_append,List.map_cons,List.map_nil])<;>exact fin8) (by (try simp only [evWB,Nat.reduceBEq,Nat.reduceAdd,Nat.reduceSub,Nat.reduceLeDiff,Nat.reduceLT,implies_true,zw,List.length_append,List.length_singleton,List.map_append,List.map_cons,List.map_nil])<;>exact fin8))⟩
  ·
   rw [List.nodup_append]
   exact ⟨hnd,by simp,fun a ha b hb e=>hns (by rw [List.mem_singleton] at hb;rw [← hb,← e];exact ha)⟩
  ·
   intro a ha
   rcases List.mem_append.1 ha with ha | ha
   · exact hsub a ha
   · rw [List.mem_singleton] at ha;rw [ha];exact hp
  ·
   have:sel.length < ps.length:=by
    have:=List.Nodup.length_le_of_subset (List.nodup_cons.2 ⟨hns,hnd⟩) (show ∀ a∈p::sel,a∈ps from fun a ha=>by
     rcases List.mem_cons.1 ha with rfl | ha
     · exact hp
     · exact hsub a ha)
    simp only [List.length_cons] at this
    omega
   rw [List.length_append,List.length_singleton]
   omega
abbrev MS:=Int × List (Int × Int)
def MS.keys (s:MS):List Int:=s.2.map (·.1)
def MS.ok (s:MS):Prop:=SetS s.1 s.2
def add1 (s:MS) (v:Int):MS:=if v∈s.keys then s else (s.1+1,s.2++[(v,s.1)])
def addL (s:MS) (l:List Int):MS:=l.foldl add1 s
theorem zxJ {s:MS} {v:Int}:(add1 s v).keys=if v∈s.keys then s.keys else s.keys++[v]:=by
 unfold add1
 split
 · rfl
 · simp [MS.keys]
theorem zuf {s:MS} {v:Int}:s.2.length≤(add1 s v).2.length∧(add1 s v).1≤s.1+1∧(add1 s v).2.length≤s.2.length+1:=by
 unfold add1
 split
 · exact ⟨Nat.le_refl _,by omega,by omega⟩
 · exact ⟨by simp,by simp,by simp⟩
theorem SetS.add {c:Int} {ps:List (Int × Int)} (h:SetS c ps) {v:Int} (hv:v∉ps.map (·.1)) (ht:c < 1000000) (hl:ps.length < 1000000):SetS (c+1) (ps++[(v,c)]):=by
 refine ⟨?_,?_,fun p hp=>?_,by omega,by simp;omega⟩
 ·
  rw [List.map_append,List.nodup_append]
  exact ⟨h.keys,by simp,fun a ha b hb e=>hv (by simp only [List.map_cons,List.map_nil,List.mem_singleton] at hb;rw [← hb,← e];exact ha)⟩
 ·
  rw [List.map_append,List.nodup_append]
  refine ⟨h.borns,by simp,fun a ha b hb e=>?_⟩
  simp only [List.map_cons,List.map_nil,List.mem_singleton] at hb
  obtain ⟨p,hp,hpe⟩:=List.mem_map.1 ha
  have:=h.lt p hp
  omega
 ·
  rcases List.mem_append.1 hp with hp | hp
  · have:=h.lt p hp;omega
  · rw [List.mem_singleton] at hp;rw [hp];simp only;omega
theorem zBC {s:MS} {v:Int} (h:s.ok) (ht:s.1 < 1000000) (hl:s.2.length < 1000000):(add1 s v).ok:=by
 unfold add1
 split
 · exact h
 · rename_i hv;exact SetS.add h hv ht hl
theorem zc7:∀ {l:List Int} {s:MS},s.2.length≤(addL s l).2.length∧(addL s l).1≤s.1+l.length∧(addL s l).2.length≤s.2.length+l.length
 | [],s=>⟨Nat.le_refl _,by simp [addL],by simp [addL]⟩
 |
  v::l,s=>by
  have h1:=zuf (s:=s) (v:=v)
  have h2:=zc7 (l:=l) (s:=add1 s v)
  show s.2.length≤(addL (add1 s v) l).2.length∧(addL (add1 s v) l).1≤s.1+_∧(addL (add1 s v) l).2.length≤_
  simp only [List.length_cons]
  exact ⟨by omega,by omega,by omega⟩
theorem zj6:∀ {l:List Int} {s:MS},s.ok→s.1+l.length≤1000000→s.2.length+l.length≤1000000→(addL s l).ok
 | [],s,h,_,_=>h
 |
  v::l,s,h,h1,h2=>by
  simp only [List.length_cons] at h1 h2
  have h3:=zuf (s:=s) (v:=v)
  exact zj6 (l:=l) (zBC h (by omega) (by omega)) (by omega) (by omega)
theorem zd3 {y:Int}:∀ {l:List Int} {s:MS},y∈(addL s l).keys↔y∈s.keys∨y∈l
 | [],s=>by simp [addL]
 |
  v::l,s=>by
  show y∈(addL (add1 s v) l).keys↔_
  rw [zd3,zxJ]
  split
  ·
   rename_i h
   constructor
   ·
    rintro (h1 | h1)
    · exact .inl h1
    · exact .inr (List.mem_cons_of_mem _ h1)
   ·
    rintro (h1 | h1)
    · exact .inl h1
    ·
     rcases List.mem_cons.1 h1 with rfl | h1
     · exact .inl h
     · exact .inr h1
  · rw [List.mem_append,List.mem_singleton,List.mem_cons,or_assoc]
theorem zqI {s:MS} {l:List Int} {i:Nat} (h:i < l.length):addL s (l.take (i+1))=add1 (addL s (l.take i)) l[i]:=by
 unfold addL
 rw [List.take_add_one,List.getElem?_eq_getElem h,List.foldl_append]
 rfl
theorem zux {p:Int × Int} {ps:List (Int × Int)}:(enL (ps++[p])).map cm=(enL ps).map cm++[[.int .i64 p.1, .bool true, .int .i64 p.2]]:=by simp [enL,cm]
theorem zxM {c v:Int} {ps:List (Int × Int)}:[AV.int .i64 (c+1), .undef, .undef]::((enL ps).map cm++[[.int .i64 v, .bool true, .int .i64 c]])=(setM (c+1) (ps++[(v,c)])).map cm:=by
 simp [setM,enL,cm]
theorem zgJ (s:MS) (l:List Int) (hs:s.ok) (h1:s.1+l.length≤1000000) (h2:s.2.length+l.length≤1000000):zad Tryz.prog zx [.mp 0 0,za l] [(0, .row 3 ((setM s.1 s.2).map cm) 0)] 1
  (fun v H nx=>v=.bool (decide (s.2.length < (addL s l).2.length))∧H=[(0, .row 3 ((setM (addL s l).1 (addL s l).2).map cm) 0)]∧nx=1):=by
 refine zbZ (fn_x zfv rfl ?_)
 unfold zc4
 have hB:=hBig
 (repeat first | simp (disch:=try exact dis1) only [evD,Nat.reduceBEq,Nat.reduceAdd,Nat.reduceLeDiff,za] | with_reducible intro _ | ((with_reducible apply And.intro);omega))
 refine zg (fun i:Nat=>([(0, .mp 0 0),(5, .bool (decide (s.2.length < (addL s (l.take i)).2.length))),(8,za l),(9, .int .i64 l.length),(10, .int .i64 i)],[(0, .row 3 ((setM (addL s (l.take i)).1 (addL s (l.take i)).2).map cm) 0)])) 1
  (fun i=>i≤l.length) (fun i=>l.length - i) 0 (Nat.zero_le _) (by rw [List.take_zero,show addL s []=s from rfl,dF (Nat.lt_irrefl _)];exact (Ent.tabB [(0,0,0)] [] rfl rfl rfl (by (try simp only [evWB,Nat.reduceBEq,Nat.reduceAdd,Nat.reduceSub,Nat.reduceLeDiff,Nat.reduceLT,implies_true,zw,za])<;>exact fin6) (by (try simp only [evWB,Nat.reduceBEq,Nat.reduceAdd,Nat.reduceSub,Nat.reduceLeDiff,Nat.reduceLT,implies_true,zw,za])<;>exact fin6))) ?_
 rintro i hi wf
 unfold zbV
 by_cases hl:i < l.length
 ·
  have hgl:=zp (f:=cI) (d:=[]) hl
  have hb:=zc7 (l:=l.take i) (s:=s)
  rw [List.length_take] at hb
  have hnx:=zqI (s:=s) hl
  generalize addL s (l.take i)=si at hb hnx ⊢
  obtain ⟨c,ps⟩:=si
  simp only at hb hnx ⊢
  by_cases hk:l[i]∈ps.map (·.1)
  ·
   obtain ⟨j,hj,hje,hf⟩:=zkv hk
   have e1:add1 (c,ps) l[i]=(c,ps):=if_pos hk
   rw [e1] at hnx
   (repeat first | simp (disch:=try exact dis1) only [evD,Nat.reduceBEq,Nat.reduceAdd,Nat.reduceLeDiff,dT,hgl,za,zw,hf] | with_reducible intro _ | ((with_reducible apply And.intro);omega))
   exact ⟨i+1,by omega,by omega,(Ent.tabB [(0,0,0)] [] rfl rfl rfl (by (try simp only [evWB,Nat.reduceBEq,Nat.reduceAdd,Nat.reduceSub,Nat.reduceLeDiff,Nat.reduceLT,implies_true,zw,za,hnx])<;>exact fin6) (by (try simp only [evWB,Nat.reduceBEq,Nat.reduceAdd,Nat.reduceSub,Nat.reduceLeDiff,Nat.reduceLT,implies_true,zw,za,hnx])<;>exact fin6))⟩
  ·
   have hf:=zi5 hk
   have e1:add1 (c,ps) l[i]=(c+1,ps++[(l[i],c)]):=if_neg hk
   rw [e1] at hnx
   (repeat first | simp (disch:=try exact dis1) only [evD,Nat.reduceBEq,Nat.reduceAdd,Nat.reduceLeDiff,dT,hgl,za,zw,hf] | with_reducible intro _ | ((with_reducible apply And.intro);omega))
   have hd:decide (s.2.length < ps.length+1)=true:=dT (by omega)
   exact ⟨i+1,by omega,by omega,(Ent.tabB [(0,0,0)] [] rfl rfl rfl (by (try simp only [evWB,Nat.reduceBEq,Nat.reduceAdd,Nat.reduceSub,Nat.reduceLeDiff,Nat.reduceLT,implies_true,zw,za,hnx,zux,List.length_append,List.length_singleton,hd])<;>exact fin6) (by (try simp only [evWB,Nat.reduceBEq,Nat.reduceAdd,Nat.reduceSub,Nat.reduceLeDiff,Nat.reduceLT,implies_true,zw,za,hnx,zux,List.length_append,List.length_singleton,hd])<;>exact fin6))⟩
 ·
  (repeat first | simp (disch:=try exact dis1) only [evD,Nat.reduceBEq,Nat.reduceAdd,Nat.reduceLeDiff,dF] | with_reducible intro _ | ((with_reducible apply And.intro);omega))
  unfold zbU
  (repeat first | simp (disch:=try exact dis1) only [evD,Nat.reduceBEq,Nat.reduceAdd,Nat.reduceLeDiff,zcN] | with_reducible intro _ | ((with_reducible apply And.intro);omega))
  rw [List.take_of_length_le (by omega)]
  exact ⟨_,_,_,(Ent.tabB [(0,0,0)] [] rfl rfl rfl (by (try simp only [evWB,Nat.reduceBEq,Nat.reduceAdd,Nat.reduceSub,Nat.reduceLeDiff,Nat.reduceLT,implies_true,zw])<;>exact fin6) (by (try simp only [evWB,Nat.reduceBEq,Nat.reduceAdd,Nat.reduceSub,Nat.reduceLeDiff,Nat.reduceLT,implies_true,zw])<;>exact fin6)),rfl,rfl,rfl⟩
theorem zBI {n k:Nat} {S:Nat→MS} {a:MS} {m:List MC} (h:m=setM a.1 a.2):(fi cm n (fun i=>setM (S i).1 (S i).2) (fun _=>0)).set k (m.map cm,0)=fi cm n (fun i=>setM (updF S k a i).1 (updF S k a i).2) (fun _=>0):=by
 rw [fi_set,h]
 congr 1
 ·
  funext i
  unfold updF
  split<;>rfl
 ·
  funext i
  unfold updF
  split<;>rfl
theorem zy2 {n k:Nat} {S:Nat→MS} {c v:Int} {ps:List (Int × Int)}:(fi cm n (fun i=>setM (S i).1 (S i).2) (fun _=>0)).set k ([AV.int .i64 (c+1), .undef, .undef]::((enL ps).map cm++[[.int .i64 v, .bool true, .int .i64 c]]),0) =
  fi cm n (fun i=>setM (updF S k (c+1,ps++[(v,c)]) i).1 (updF S k (c+1,ps++[(v,c)]) i).2) (fun _=>0):=by
 rw [zxM]
 exact zBI rfl
theorem zoM {α:Type} {S:Nat→α} {k:Nat} {a b:α}:updF (updF S k a) k b=updF S k b:=by
 funext i
 unfold updF
 split<;>rfl
theorem zrF {α:Type} {S:Nat→α} {k:Nat}:updF S k (S k)=S:=by
 funext i
 unfold updF
 split
 · rename_i h;rw [h]
 · rfl
theorem zoi (n k:Nat) (hk:k < n) (S:Nat→MS) (l:List Int) (hs:(S k).ok) (h1:(S k).1+l.length≤1000000) (h2:(S k).2.length+l.length≤1000000):zad Tryz.prog zx [.mp 0 (k+1),za l] [(0,famS n S)] 1
  (fun v H nx=>v=.bool (decide ((S k).2.length < (addL (S k) l).2.length))∧H=[(0,famS n (updF S k (addL (S k) l)))]∧nx=1):=by
 refine zbZ (fn_x zfv rfl ?_)
 unfold zc4 famS
 have hB:=hBig
 (repeat first | simp (disch:=try exact dis1) only [evD,Nat.reduceBEq,Nat.reduceAdd,Nat.reduceLeDiff,za] | with_reducible intro _ | ((with_reducible apply And.intro);omega))
 refine zg (fun i:Nat=>([(0, .mp 0 (k+1)),(5, .bool (decide ((S k).2.length < (addL (S k) (l.take i)).2.length))),(8,za l),(9, .int .i64 l.length),(10, .int .i64 i)],[(0, .fam 3 (fi cm n (fun j=>setM (updF S k (addL (S k) (l.take i)) j).1 (updF S k (addL (S k) (l.take i)) j).2) (fun _=>0)))])) 1
  (fun i=>i≤l.length) (fun i=>l.length - i) 0 (Nat.zero_le _) (by rw [List.take_zero,show addL (S k) []=S k from rfl,dF (Nat.lt_irrefl _),zrF];exact (Ent.tabB [(0,0,0)] [] rfl rfl rfl (by (try simp only [evWB,Nat.reduceBEq,Nat.reduceAdd,Nat.reduceSub,Nat.reduceLeDiff,Nat.reduceLT,implies_true,za])<;>exact fin8) (by (try simp only [evWB,Nat.reduceBEq,Nat.reduceAdd,Nat.reduceSub,Nat.reduceLeDiff,Nat.reduceLT,implies_true,za])<;>exact fin8))) ?_
 rintro i hi wf
 unfold zbV
 by_cases hl:i < l.length
 ·
  have hgl:=zp (f:=cI) (d:=[]) hl
  have hb:=zc7 (l:=l.take i) (s:=S k)
  rw [List.length_take] at hb
  have hnx:=zqI (s:=S k) hl
  generalize addL (S k) (l.take i)=si at hb hnx ⊢
  obtain ⟨c,ps⟩:=si
  simp only at hb hnx ⊢
  by_cases hm:l[i]∈ps.map (·.1)
  ·
   obtain ⟨j,hj,hje,hf⟩:=zkv hm
   have e1:add1 (c,ps) l[i]=(c,ps):=if_pos hm
   rw [e1] at hnx
   (repeat first | simp (disch:=try exact dis1) only [evD,Nat.reduceBEq,Nat.reduceAdd,Nat.reduceLeDiff,dT,hgl,za,zn6 hk,ziF,zw,hf] | with_reducible intro _ | ((with_reducible apply And.intro);omega))
   exact ⟨i+1,by omega,by omega,(Ent.tabB [(0,0,0)] [] rfl rfl rfl (by (try simp only [evWB,Nat.reduceBEq,Nat.reduceAdd,Nat.reduceSub,Nat.reduceLeDiff,Nat.reduceLT,implies_true,za,hnx])<;>exact fin8) (by (try simp only [evWB,Nat.reduceBEq,Nat.reduceAdd,Nat.reduceSub,Nat.reduceLeDiff,Nat.reduceLT,implies_true,za,hnx])<;>exact fin8))⟩
  ·
   have hf:=zi5 hm
   have e1:add1 (c,ps) l[i]=(c+1,ps++[(l[i],c)]):=if_neg hm
   rw [e1] at hnx
   (repeat first | simp (disch:=try exact dis1) only [evD,Nat.reduceBEq,Nat.reduceAdd,Nat.reduceLeDiff,dT,hgl,za,zn6 hk,ziF,zw,hf,zy2,zoM] | with_reducible intro _ | ((with_reducible apply And.intro);omega))
   have hd:decide ((S k).2.length < ps.length+1)=true:=dT (by omega)
   exact ⟨i+1,by omega,by omega,(Ent.tabB [(0,0,0)] [] rfl rfl rfl (by (try simp only [evWB,Nat.reduceBEq,Nat.reduceAdd,Nat.reduceSub,Nat.reduceLeDiff,Nat.reduceLT,implies_true,za,hnx,List.length_append,List.length_singleton,hd])<;>exact fin8) (by (try simp only [evWB,Nat.reduceBEq,Nat.reduceAdd,Nat.reduceSub,Nat.reduceLeDiff,Nat.reduceLT,implies_true,za,hnx,List.length_append,List.length_singleton,hd])<;>exact fin8))⟩
 ·
  (repeat first | simp (disch:=try exact dis1) only [evD,Nat.reduceBEq,Nat.reduceAdd,Nat.reduceLeDiff,dF] | with_reducible intro _ | ((with_reducible apply And.intro);omega))
  unfold zbU
  (repeat first | simp (disch:=try exact dis1) only [evD,Nat.reduceBEq,Nat.reduceAdd,Nat.reduceLeDiff,zcN] | with_reducible intro _ | ((with_reducible apply And.intro);omega))
  rw [List.take_of_length_le (by omega)]
  exact ⟨_,_,_,(Ent.tabB [(0,0,0)] [] rfl rfl rfl fin8 fin8),rfl,rfl,rfl⟩
theorem zoT {l:List Int} {i:Nat} (h:i≤l.length) {H:AH}:zdx 1 (.sl 1 i fun a j=>((l.map fun n=>[AV.int .i64 n]).getD (Int.toNat 0+a) []).getD j .undef) H=some ((l.take i).map cI):=by
 simp only [zdx,show Nat.beq 1 1=true from rfl,cond_true,Option.some.injEq]
 apply List.ext_getElem
 · simp<;>omega
 ·
  intro k h1 h2
  simp only [List.length_map,List.length_range] at h1
  have hk:k < l.length:=by omega
  simp only [List.getElem_map,List.getElem_range,tab,Int.toNat_zero,Nat.zero_add,List.getElem_take]
  rw [zp hk]
  try rfl
theorem zo3 {l:List Int} {i:Nat} (h:i≤l.length) {H:AH}:zdx 1 (.sl 1 (l.length - i) fun a j=>((l.map fun n=>[AV.int .i64 n]).getD (i+a) []).getD j .undef) H=some ((l.drop i).map cI):=by
 simp only [zdx,show Nat.beq 1 1=true from rfl,cond_true,Option.some.injEq]
 apply List.ext_getElem
 · simp<;>omega
 ·
  intro k h1 h2
  simp only [List.length_map,List.length_range] at h1
  have hk:i+k < l.length:=by omega
  simp only [List.getElem_map,List.getElem_range,tab,List.getElem_drop]
  rw [zp hk]
  try rfl
theorem zxb {sz n:Nat} {f:Nat→Nat→AV}:lenV (.sl sz n f)=some n:=rfl
theorem zxA {sz n:Nat} {f:Nat→Nat→AV} {H:AH}:fits H (.sl sz n f)=True:=rfl
theorem zxv {n:Int}:∀ {i:Nat} {l:List Int},(∀ j,(h:j < l.length)→j < i→l[j] < n)→insU n l=l.take i++insU n (l.drop i)
 | 0,l,_=>by simp
 | i+1,[],_=>by simp
 |
  i+1,x::l,h=>by
  have h0:=h 0 (by simp) (by omega)
  simp only [List.getElem_cons_zero] at h0
  rw [insU,if_pos h0,List.take_succ_cons,List.drop_succ_cons,List.cons_append,← zxv (i:=i) fun j hj hji=>h (j+1) (by simpa using hj) (by omega)]
theorem zuL {n:Int}:∀ {l:List Int},(insU n l).length≤l.length+1
 | []=>by simp [insU]
 |
  x::l=>by
  unfold insU
  split
  ·
   have:=zuL (n:=n) (l:=l)
   simp only [List.length_cons];omega
  · split<;>simp
theorem zj7 (l:List Int) (n:Int) (hl:l.length≤1000000):zz Tryz.prog zfO [za l, .int .i64 n] (·=za (insU n l)):=by
 refine fn_x zpW rfl ?_
 unfold zkt
 have hB:=hBig
 (repeat first | simp (disch:=try exact dis1) only [evD,Nat.reduceBEq,Nat.reduceAdd,Nat.reduceLeDiff,za] | with_reducible intro _ | ((with_reducible apply And.intro);omega))
 refine zg (fun i:Nat=>([(0,za l),(1, .int .i64 n),(5, .int .i64 i)],[])) 0 (fun i=>i≤l.length∧∀ j,(h:j < l.length)→j < i→l[j] < n) (fun i=>l.length - i) 0 ⟨Nat.zero_le _,fun j _ h=>by omega⟩ (Ent.tab [] [] rfl (by (try simp only [evWB,Nat.reduceBEq,Nat.reduceAdd,Nat.reduceSub,Nat.reduceLeDiff,Nat.reduceLT,implies_true,za])<;>exact fin2) (by (try simp only [evWB,Nat.reduceBEq,Nat.reduceAdd,Nat.reduceSub,Nat.reduceLeDiff,Nat.reduceLT,implies_true,za])<;>exact fin2)) ?_
 rintro i ⟨hi,hlt⟩ wf
 unfold zhD
 have hat:=zxv hlt
 by_cases hil:i < l.length
 ·
  have hgl:=zp (f:=cI) (d:=[]) hil
  by_cases hx:l[i] < n
  ·
   (repeat first | simp (disch:=try exact dis1) only [evD,Nat.reduceBEq,Nat.reduceAdd,Nat.reduceLeDiff,dT,za,hgl] | with_reducible intro _ | ((with_reducible apply And.intro);omega))
   refine ⟨i+1,⟨by omega,fun j hj hji=>?_⟩,by omega,Ent.keep rfl fin5⟩
   by_cases hje:j=i
   · subst hje;exact hx
   · exact hlt j hj (by omega)
  ·
   rw [List.drop_eq_getElem_cons hil,insU,if_neg hx] at hat
   (repeat first | simp (disch:=try exact dis1) only [evD,Nat.reduceBEq,Nat.reduceAdd,Nat.reduceLeDiff,dT,dF,za,hgl] | with_reducible intro _ | ((with_reducible apply And.intro);omega))
   unfold zek
   by_cases he:l[i]=n
   ·
    rw [if_pos he,← List.drop_eq_getElem_cons hil,List.take_append_drop] at hat
    rw [hat]
    (repeat first | simp (disch:=try exact dis1) only [evD,Nat.reduceBEq,Nat.reduceAdd,Nat.reduceLeDiff,dT,za,hgl,zeT] | with_reducible intro _ | ((with_reducible apply And.intro);omega))
    exact ⟨_,zT rfl,rfl⟩
   ·
    rw [if_neg he,← List.drop_eq_getElem_cons hil] at hat
    have hll:=congrArg List.length hat
    simp only [List.length_append,List.length_cons,List.length_take,List.length_drop] at hll
    rw [hat]
    have e1:=fun H=>zoT (H:=H) hi
    have e2:=fun H=>zo3 (H:=H) hi
    have k1:(l.take i).length=i:=by rw [List.length_take];omega
    have k2:((l.take i).map cI).take i=(l.take i).map cI:=List.take_of_length_le (by rw [List.length_map];omega)
    have k3:(((l.take i).map cI)++[[AV.int .i64 n]]).take (i+1)=((l.take i).map cI)++[[AV.int .i64 n]]:=List.take_of_length_le (by simp;omega)
    have k4:(((l.take i).map cI)++[[AV.int .i64 n]]).length=i+1:=by simp;omega
    have t1:((i:Int) - 0).toNat=i:=by omega
    have t2:((l.length:Int) - (i:Int)).toNat=l.length - i:=by omega
    (repeat first | simp (disch:=try exact dis1) only [evD,Nat.reduceBEq,Nat.reduceAdd,Nat.reduceLeDiff,dT,dF,za,hgl,zob,znP,e1,e2,zxb,zxA,t1,t2,k1,k2,k3,k4,zeT] | with_reducible intro _ | ((with_reducible apply And.intro);omega))
    have er:(l.take i).map cI++[[AV.int .i64 n]]++(l.drop i).map cI=(l.take i++n::l.drop i).map cI:=by simp
    have el:i+1+(l.length - i)=(l.take i++n::l.drop i).length:=by rw [List.length_append,List.length_cons,List.length_drop,k1];omega
    rw [er,el]
    exact ⟨_,zai trivial rfl (by rw [← el];omega),rfl⟩
 ·
  obtain rfl:i=l.length:=by omega
  rw [List.take_length,List.drop_length,insU] at hat
  (repeat first | simp (disch:=try exact dis1) only [evD,Nat.reduceBEq,Nat.reduceAdd,Nat.reduceLeDiff,dF,za] | with_reducible intro _ | ((with_reducible apply And.intro);omega))
  unfold zek
  rw [hat]
  have e1:=fun H=>zoT (H:=H) hi
  have e2:=fun H=>zo3 (H:=H) hi
  have k3:((l.map cI)++[[AV.int .i64 n]]).take (l.length+1)=(l.map cI)++[[AV.int .i64 n]]:=List.take_of_length_le (by simp)
  have k4:((l.map cI)++[[AV.int .i64 n]]).length=l.length+1:=by simp
  have t1:((l.length:Int) - 0).toNat=l.length:=by omega
  have t2:((l.length:Int) - (l.length:Int)).toNat=l.length - l.length:=by omega
  (repeat first | simp (disch:=try exact dis1) only [evD,Nat.reduceBEq,Nat.reduceAdd,Nat.reduceLeDiff,dF,za,zob,znP,e1,e2,zxb,zxA,t1,t2,k3,k4,zeT] | with_reducible intro _ | ((with_reducible apply And.intro);omega))
  have er:l.map cI++[[AV.int .i64 n]]++(l.drop l.length).map cI=(l++[n]).map cI:=by simp
  have el:l.length+1+(l.length - l.length)=(l++[n]).length:=by simp
  rw [er,el]
  exact ⟨_,zai trivial rfl (by rw [← el];omega),rfl⟩
theorem zn9 {a b:List Int} {i:Nat} (h:i < b.length):zaY a (b.take (i+1))=insU b[i] (zaY a (b.take i)):=by
 unfold zaY
 rw [List.take_add_one,List.getElem?_eq_getElem h,List.foldl_append]
 rfl
theorem zdT {a:List Int}:∀ {b:List Int},(zaY a b).length≤a.length+b.length:=by
 intro b
 induction b generalizing a with
 | nil=>simp [zaY]
 |
  cons x b ih =>
  have h1:=ih (a:=insU x a)
  have h2:=zuL (n:=x) (l:=a)
  show (zaY (insU x a) b).length≤_
  simp only [List.length_cons]
  omega
theorem zf8 (a b:List Int) (hl:a.length+b.length≤1000000):zz Tryz.prog zdO [za a,za b] (·=za (zaY a b)):=by
 refine fn_x zru rfl ?_
 unfold zlT
 have hu0:zaY a []=a:=rfl
 have hB:=hBig
 (repeat first | simp (disch:=try exact dis1) only [evD,Nat.reduceBEq,Nat.reduceAdd,Nat.reduceLeDiff,za] | with_reducible intro _ | ((with_reducible apply And.intro);omega))
 refine zg (fun i:Nat=>([(0,za (zaY a (b.take i))),(1,za b),(5, .int .i64 i)],[])) 0 (fun i=>i≤b.length) (fun i=>b.length - i) 0 (Nat.zero_le _) (Ent.tab [] [] rfl (by (try simp only [evWB,Nat.reduceBEq,Nat.reduceAdd,Nat.reduceSub,Nat.reduceLeDiff,Nat.reduceLT,implies_true,za,List.take_zero,hu0])<;>exact fin2) (by (try simp only [evWB,Nat.reduceBEq,Nat.reduceAdd,Nat.reduceSub,Nat.reduceLeDiff,Nat.reduceLT,implies_true,za,List.take_zero,hu0])<;>exact fin2)) ?_
 rintro i hi wf
 unfold ziE
 by_cases hil:i < b.length
 ·
  have hgl:=zp (f:=cI) (d:=[]) hil
  have hlen:=zdT (a:=a) (b:=b.take i)
  rw [List.length_take] at hlen
  have hnx:=zn9 (a:=a) hil
  generalize zaY a (b.take i)=u at hlen hnx ⊢
  (repeat first | simp (disch:=try exact dis1) only [evD,Nat.reduceBEq,Nat.reduceAdd,Nat.reduceLeDiff,dT,za,hgl] | with_reducible intro _ | ((with_reducible apply And.intro);omega))
  refine zi (zk (zj7 u b[i] (by omega)) rfl) ?_
  (repeat first | simp (disch:=try exact dis1) only [evD,Nat.reduceBEq,Nat.reduceAdd,Nat.reduceLeDiff] | with_reducible intro _ | ((with_reducible apply And.intro);omega))
  exact ⟨i+1,by omega,by omega,(Ent.tab [] [] rfl (by (try simp only [evWB,Nat.reduceBEq,Nat.reduceAdd,Nat.reduceSub,Nat.reduceLeDiff,Nat.reduceLT,implies_true,za,hnx])<;>exact fin2) (by (try simp only [evWB,Nat.reduceBEq,Nat.reduceAdd,Nat.reduceSub,Nat.reduceLeDiff,Nat.reduceLT,implies_true,za,hnx])<;>exact fin2))⟩
 ·
  (repeat first | simp (disch:=try exact dis1) only [evD,Nat.reduceBEq,Nat.reduceAdd,Nat.reduceLeDiff,dF,za] | with_reducible intro _ | ((with_reducible apply And.intro);omega))
  unfold zik
  (repeat first | simp (disch:=try exact dis1) only [evD,Nat.reduceBEq,Nat.reduceAdd,Nat.reduceLeDiff,zlI] | with_reducible intro _ | ((with_reducible apply And.intro);omega))
  rw [List.take_of_length_le (by omega)]
  exact ⟨_,zT rfl,rfl⟩
mutual
theorem zgx:∀ e:Ex,(zdn e).length≤zaU e
 |
  .mk op _ v _ l=>by
  have h:=zps (if op=2 then [v] else []) l
  rw [zdn,zaU]
  have:(if op=2 then [v] else ([]:List Int)).length≤1:=by split<;>simp
  omega
theorem zps:∀ (a:List Int) (l:List Ex),(zfb a l).length≤a.length+zC l
 | a,[]=>by rw [zfb,zC];simp
 |
  a,x::l=>by
  have h1:=zps (zaY a (zdn x)) l
  have h2:=zdT (a:=a) (b:=zdn x)
  have h3:=zgx x
  rw [zfb,zC]
  omega
end
theorem zg5 {l:List Ex} {i:Nat} (h:i < l.length):zC (l.drop i)=zaU l[i]+zC (l.drop (i+1)):=by
 rw [List.drop_eq_getElem_cons h,zC]
theorem zt6:∀ (k:Nat) (e:Ex),zaU e≤k→k≤100000→zz Tryz.prog zi7 [.agg (encX e)] (·=za (zdn e)):=by
 intro k
 induction k with
 | zero=>intro e h;obtain ⟨_,_,_,_,l⟩:=e;rw [zaU] at h;omega
 | succ k ih =>
 intro e hk hk2
 obtain ⟨op,nn,v,w,l⟩:=e
 refine fn_x ztp rfl ?_
 unfold zmE
 have hB:=hBig
 rw [zaU] at hk
 rw [zbu,zdn]
 generalize hR:zfb (if op=2 then [v] else []) l=R
 have main:∀ (K:Kn) (H:AH) (nx:Nat),Ent 0 K H nx [(1,encP 5 [.int .i64 op, .int .u32 nn, .int .i64 v, .int .i64 w,encL 5 encX l]),(3,za (if op=2 then [v] else [])),(4, .int .i64 0)] [] 0 →
   zhW Tryz.prog 0 zgg (zaZ 0 (seqQ Tryz.prog 0 zgl (retK zjK fun v' H' x=>∃ a,Frz H' v' a∧a=za R))) K H nx:=by
  intro K H nx hent
  refine zg (fun s:Nat × List Int=>([(1,encP 5 [.int .i64 op, .int .u32 nn, .int .i64 v, .int .i64 w,encL 5 encX l]),(3,za s.2),(4, .int .i64 s.1)],[])) 0
   (fun s=>s.1≤l.length∧zfb s.2 (l.drop s.1)=R∧s.2.length+zC (l.drop s.1)≤100001) (fun s=>l.length - s.1) (0,if op=2 then [v] else []) ⟨Nat.zero_le _,hR,?_⟩ hent ?_
  ·
   have:(if op=2 then [v] else ([]:List Int)).length≤1:=by split<;>simp
   simp only [List.drop_zero]
   omega
  rintro ⟨i,x⟩ ⟨hi,hgo,hsz⟩ wf
  simp only at hi hgo hsz
  unfold zgg
  by_cases hil:i < l.length
  case neg =>
   rw [List.drop_of_length_le (by omega),zfb] at hgo
   subst hgo
   (repeat first | simp (disch:=try exact dis1) only [evD,Nat.reduceBEq,Nat.reduceAdd,Nat.reduceLeDiff,fldP,dF] | with_reducible intro _ | ((with_reducible apply And.intro);omega))
   unfold zgl
   (repeat first | simp (disch:=try exact dis1) only [evD,Nat.reduceBEq,Nat.reduceAdd,Nat.reduceLeDiff,zjK] | with_reducible intro _ | ((with_reducible apply And.intro);omega))
   exact ⟨_,zT rfl,rfl⟩
  have hm:=zbB (List.getElem_mem hil)
  have hsd:=zg5 hil
  rw [List.drop_eq_getElem_cons hil,zfb] at hgo
  have hvl:=zgx l[i]
  (repeat first | simp (disch:=try exact dis1) only [evD,Nat.reduceBEq,Nat.reduceAdd,Nat.reduceLeDiff,fldP,dT,zp hil,zax,zZ] | with_reducible intro _ | ((with_reducible apply And.intro);omega))
  refine zi (zk (ih l[i] (by omega) (by omega)) (flX rfl)) ?_
  generalize zdn l[i]=u at hgo hvl ⊢
  (repeat first | simp (disch:=try exact dis1) only [evD,Nat.reduceBEq,Nat.reduceAdd,Nat.reduceLeDiff] | with_reducible intro _ | ((with_reducible apply And.intro);omega))
  have hu0:zaY x []=x:=rfl
  refine zg (fun j:Nat=>([(1,encP 5 [.int .i64 op, .int .u32 nn, .int .i64 v, .int .i64 w,encL 5 encX l]),(3,za (zaY x (u.take j))),(4, .int .i64 i),(5,za u),(6, .int .i64 j)],[])) 0 (fun j=>j≤u.length) (fun j=>u.length - j) 0 (Nat.zero_le _) (Ent.tab [] [] rfl (by (try simp only [evWB,Nat.reduceBEq,Nat.reduceAdd,Nat.reduceSub,Nat.reduceLeDiff,Nat.reduceLT,implies_true,za,List.take_zero,hu0])<;>exact fin2) (by (try simp only [evWB,Nat.reduceBEq,Nat.reduceAdd,Nat.reduceSub,Nat.reduceLeDiff,Nat.reduceLT,implies_true,za,List.take_zero,hu0])<;>exact fin2)) ?_
  rintro j hj wf2
  unfold zjk
  by_cases hjl:j < u.length
  ·
   have hgl:=zp (f:=cI) (d:=[]) hjl
   have hlen:=zdT (a:=x) (b:=u.take j)
   rw [List.length_take] at hlen
   have hnx:=zn9 (a:=x) hjl
   generalize zaY x (u.take j)=y at hlen hnx ⊢
   (repeat first | simp (disch:=try exact dis1) only [evD,Nat.reduceBEq,Nat.reduceAdd,Nat.reduceLeDiff,dT,za,hgl] | with_reducible intro _ | ((with_reducible apply And.intro);omega))
   refine zi (zk (zj7 y u[j] (by omega)) rfl) ?_
   (repeat first | simp (disch:=try exact dis1) only [evD,Nat.reduceBEq,Nat.reduceAdd,Nat.reduceLeDiff] | with_reducible intro _ | ((with_reducible apply And.intro);omega))
   exact ⟨j+1,by omega,by omega,(Ent.tab [] [] rfl (by (try simp only [evWB,Nat.reduceBEq,Nat.reduceAdd,Nat.reduceSub,Nat.reduceLeDiff,Nat.reduceLT,implies_true,za,hnx])<;>exact fin2) (by (try simp only [evWB,Nat.reduceBEq,Nat.reduceAdd,Nat.reduceSub,Nat.reduceLeDiff,Nat.reduceLT,implies_true,za,hnx])<;>exact fin2))⟩
  ·
   rw [List.take_of_length_le (by omega)]
   have hlen:=zdT (a:=x) (b:=u)
   (repeat first | simp (disch:=try exact dis1) only [evD,Nat.reduceBEq,Nat.reduceAdd,Nat.reduceLeDiff,dF,za] | with_reducible intro _ | ((with_reducible apply And.intro);omega))
   unfold zjx
   (repeat first | simp (disch:=try exact dis1) only [evD,Nat.reduceBEq,Nat.reduceAdd,Nat.reduceLeDiff] | with_reducible intro _ | ((with_reducible apply And.intro);omega))
   exact ⟨(i+1,zaY x u),⟨by simp only;omega,hgo,by simp only;omega⟩,by simp only;omega,(Ent.tab [] [] rfl (by (try simp only [evWB,Nat.reduceBEq,Nat.reduceAdd,Nat.reduceSub,Nat.reduceLeDiff,Nat.reduceLT,implies_true,za])<;>exact fin2) (by (try simp only [evWB,Nat.reduceBEq,Nat.reduceAdd,Nat.reduceSub,Nat.reduceLeDiff,Nat.reduceLT,implies_true,za])<;>exact fin2))⟩
 by_cases h2:op=2
 ·
  rw [if_pos h2] at main hR
  (repeat first | simp (disch:=try exact dis1) only [evD,Nat.reduceBEq,Nat.reduceAdd,Nat.reduceLeDiff,fldP,dT] | with_reducible intro _ | ((with_reducible apply And.intro);omega))
  have hv1:∀ {H HH:AH} {σ:Nat→Nat→Option (Nat × Nat × Nat)},H.get 1 0=some (.row 1 [[.int .i64 v]] 1)→Vw H HH σ (inD [1]) true (.own 1 0 1 0 1) (encL 1 (fun n=>[.int .i64 n]) [v]):=fun h=>zai (l:=[v]) rfl h (by simp [big])
  refine main _ _ _ (Ent.tab [] [1] rfl trivial ⟨zT rfl,hv1 rfl, .int _ _ _,trivial⟩)
 ·
  rw [if_neg h2] at main hR
  (repeat first | simp (disch:=try exact dis1) only [evD,Nat.reduceBEq,Nat.reduceAdd,Nat.reduceLeDiff,fldP,dF] | with_reducible intro _ | ((with_reducible apply And.intro);omega))
  have hv1:∀ {H HH:AH} {σ:Nat→Nat→Option (Nat × Nat × Nat)},H.get 1 0=some (.row 1 [] 0)→Vw H HH σ (inD [1]) true (.own 1 0 0 0 0) (encL 1 (fun n=>[.int .i64 n]) []):=fun h=>zai (l:=[]) rfl h (by simp [big])
  refine main _ _ _ (Ent.tab [] [1] rfl trivial ⟨zT rfl,hv1 rfl, .int _ _ _,trivial⟩)
theorem zsB (s:St) (hs:zC s.e≤100000):zz Tryz.prog zlb [.agg s.cells] (·=za (zcF s)):=by
 refine fn_x zsS rfl ?_
 unfold zmU
 have hB:=hBig
 obtain ⟨op,var,width,next,els,tgt,l,cs⟩:=s
 unfold zcF
 simp only at hs ⊢
 generalize hR:zjT [] l=R
 have hv1:∀ {H HH:AH} {σ:Nat→Nat→Option (Nat × Nat × Nat)},H.get 1 0=some (.row 1 [] 0)→Vw H HH σ (inD [1]) true (.own 1 0 0 0 0) (encL 1 (fun n=>[.int .i64 n]) []):=fun h=>zai (l:=[]) rfl h (by simp [big])
 (repeat first | simp (disch:=try exact dis1) only [evD,Nat.reduceBEq,Nat.reduceAdd,Nat.reduceLeDiff,fldP,St.cells,za] | with_reducible intro _ | ((with_reducible apply And.intro);omega))
 refine zg (fun t:Nat × List Int=>([(1,encP 8 (St.cells ⟨op,var,width,next,els,tgt,l,cs⟩)),(3,za t.2),(4, .int .i64 t.1)],[])) 0
  (fun t=>t.1≤l.length∧zjT t.2 (l.drop t.1)=R∧t.2.length+zC (l.drop t.1)≤100001) (fun t=>l.length - t.1) (0,[]) ⟨Nat.zero_le _,hR,by simp only [List.length_nil,List.drop_zero];omega⟩ (Ent.tab [] [1] rfl trivial ⟨zT rfl,hv1 rfl, .int _ _ _,trivial⟩) ?_
 rintro ⟨i,x⟩ ⟨hi,hgo,hsz⟩ wf
 simp only at hi hgo hsz
 unfold zjh
 by_cases hil:i < l.length
 case neg =>
  rw [List.drop_of_length_le (by omega),zjT] at hgo
  subst hgo
  (repeat first | simp (disch:=try exact dis1) only [evD,Nat.reduceBEq,Nat.reduceAdd,Nat.reduceLeDiff,fldP,dF,St.cells] | with_reducible intro _ | ((with_reducible apply And.intro);omega))
  unfold zjC
  (repeat first | simp (disch:=try exact dis1) only [evD,Nat.reduceBEq,Nat.reduceAdd,Nat.reduceLeDiff,zmS] | with_reducible intro _ | ((with_reducible apply And.intro);omega))
  exact ⟨_,zT rfl,rfl⟩
 have hm:=zbB (List.getElem_mem hil)
 have hsd:=zg5 hil
 rw [List.drop_eq_getElem_cons hil,zjT] at hgo
 have hvl:=zgx l[i]
 have hul:=zdT (a:=x) (b:=zdn l[i])
 (repeat first | simp (disch:=try exact dis1) only [evD,Nat.reduceBEq,Nat.reduceAdd,Nat.reduceLeDiff,fldP,dT,St.cells,zp hil,zax,zZ] | with_reducible intro _ | ((with_reducible apply And.intro);omega))
 refine zi (zk (zt6 _ l[i] (Nat.le_refl _) (by omega)) (flX rfl)) ?_
 (repeat first | simp (disch:=try exact dis1) only [evD,Nat.reduceBEq,Nat.reduceAdd,Nat.reduceLeDiff] | with_reducible intro _ | ((with_reducible apply And.intro);omega))
 refine zi (zk (zf8 x (zdn l[i]) (by omega)) rfl) ?_
 (repeat first | simp (disch:=try exact dis1) only [evD,Nat.reduceBEq,Nat.reduceAdd,Nat.reduceLeDiff] | with_reducible intro _ | ((with_reducible apply And.intro);omega))
 exact ⟨(i+1,zaY x (zdn l[i])),⟨by simp only;omega,hgo,by simp only;omega⟩,by simp only;omega,(Ent.tab [] [] rfl (by (try simp only [evWB,Nat.reduceBEq,Nat.reduceAdd,Nat.reduceSub,Nat.reduceLeDiff,Nat.reduceLT,implies_true,za,St.cells])<;>exact fin2) (by (try simp only [evWB,Nat.reduceBEq,Nat.reduceAdd,Nat.reduceSub,Nat.reduceLeDiff,Nat.reduceLT,implies_true,za,St.cells])<;>exact fin2))⟩
theorem ztr (s:St):zz Tryz.prog zkY [.agg s.cells] (·=za (zhV s)):=by
 refine fn_x ztG rfl ?_
 unfold znm
 have hB:=hBig
 obtain ⟨op,var,width,next,els,tgt,l,cs⟩:=s
 unfold zhV
 simp only
 by_cases h:op=1∨op=3
 ·
  rw [if_pos h]
  rcases h with rfl | rfl
  ·
   (repeat first | simp (disch:=try exact dis1) only [evD,Nat.reduceBEq,Nat.reduceAdd,Nat.reduceLeDiff,dT,dF,fldP,za,St.cells,zhs] | with_reducible intro _ | ((with_reducible apply And.intro);omega))
   exact ⟨_,zai (l:=[var]) trivial rfl (by simp only [List.length_singleton];omega),rfl⟩
  ·
   (repeat first | simp (disch:=try exact dis1) only [evD,Nat.reduceBEq,Nat.reduceAdd,Nat.reduceLeDiff,dT,dF,fldP,za,St.cells,zhs] | with_reducible intro _ | ((with_reducible apply And.intro);omega))
   exact ⟨_,zai (l:=[var]) trivial rfl (by simp only [List.length_singleton];omega),rfl⟩
 ·
  rw [if_neg h]
  (repeat first | simp (disch:=try exact dis1) only [evD,Nat.reduceBEq,Nat.reduceAdd,Nat.reduceLeDiff,dT,dF,fldP,za,St.cells,zhs] | with_reducible intro _ | ((with_reducible apply And.intro);omega))
  exact ⟨_,zai (l:=[]) trivial rfl (by simp only [List.length_nil];omega),rfl⟩
theorem zl8 (s:St):zz Tryz.prog zds [.agg s.cells] (·=za (zhV s)):=by
 refine fn_x zms rfl ?_
 unfold zhL
 have hB:=hBig
 obtain ⟨op,var,width,next,els,tgt,l,cs⟩:=s
 unfold zhV
 simp only
 by_cases h:op=1∨op=3
 ·
  rw [if_pos h]
  rcases h with rfl | rfl
  ·
   (repeat first | simp (disch:=try exact dis1) only [evD,Nat.reduceBEq,Nat.reduceAdd,Nat.reduceLeDiff,dT,dF,fldP,za,St.cells,zcJ] | with_reducible intro _ | ((with_reducible apply And.intro);omega))
   exact ⟨_,zai (l:=[var]) trivial rfl (by simp only [List.length_singleton];omega),rfl⟩
  ·
   (repeat first | simp (disch:=try exact dis1) only [evD,Nat.reduceBEq,Nat.reduceAdd,Nat.reduceLeDiff,dT,dF,fldP,za,St.cells,zcJ] | with_reducible intro _ | ((with_reducible apply And.intro);omega))
   exact ⟨_,zai (l:=[var]) trivial rfl (by simp only [List.length_singleton];omega),rfl⟩
 ·
  rw [if_neg h]
  (repeat first | simp (disch:=try exact dis1) only [evD,Nat.reduceBEq,Nat.reduceAdd,Nat.reduceLeDiff,dT,dF,fldP,za,St.cells,zcJ] | with_reducible intro _ | ((with_reducible apply And.intro);omega))
  exact ⟨_,zai (l:=[]) trivial rfl (by simp only [List.length_nil];omega),rfl⟩
theorem zkJ (s:St):zz Tryz.prog zdR [.agg s.cells] (·=.bool (zg4 s)):=by
 refine fn_x zkA rfl ?_
 unfold zfZ
 have hB:=hBig
 obtain ⟨op,var,width,next,els,tgt,l,cs⟩:=s
 unfold zg4
 simp only
 by_cases h9:op=9
 ·
  (repeat first | simp (disch:=try exact dis1) only [evD,Nat.reduceBEq,Nat.reduceAdd,Nat.reduceLeDiff,dT,dF,fldP,za,St.cells,zb3] | with_reducible intro _ | ((with_reducible apply And.intro);omega))
  exact ⟨_, .bool _ _,rfl⟩
 by_cases h10:op=10
 ·
  (repeat first | simp (disch:=try exact dis1) only [evD,Nat.reduceBEq,Nat.reduceAdd,Nat.reduceLeDiff,dT,dF,fldP,za,St.cells,zb3] | with_reducible intro _ | ((with_reducible apply And.intro);omega))
  exact ⟨_, .bool _ _,rfl⟩
 (repeat first | simp (disch:=try exact dis1) only [evD,Nat.reduceBEq,Nat.reduceAdd,Nat.reduceLeDiff,dT,dF,fldP,za,St.cells,zb3] | with_reducible intro _ | ((with_reducible apply And.intro);omega))
 exact ⟨_, .bool _ _,congrArg AV.bool (decide_eq_decide.2 (by omega))⟩
mutual
theorem zu0:∀ e:Ex,(occX e).length≤zaU e
 |
  .mk op _ v _ l=>by
  have h:=zog l
  rw [occX,zaU,List.length_append]
  have:(if op=2 then [v] else ([]:List Int)).length≤1:=by split<;>simp
  omega
theorem zog:∀ l:List Ex,(zcs l).length≤zC l
 | []=>by rw [zcs,zC];simp
 |
  x::l=>by
  have h1:=zog l
  have h2:=zu0 x
  rw [zcs,zC,List.length_append]
  omega
end
theorem zlL:∀ l m:List Ex,zcs (l++m)=zcs l++zcs m
 | [],m=>by rw [zcs];rfl
 | x::l,m=>by rw [List.cons_append,zcs,zcs,zlL l m,List.append_assoc]
theorem zyU:∀ e:Ex,1≤zaU e
 | .mk _ _ _ _ _=>by rw [zaU];omega
theorem zi1:∀ l:List Ex,l.length≤zC l
 | []=>by rw [zC];simp
 | x::l=>by rw [List.length_cons,zC];have:=zi1 l;have:=zyU x;omega
theorem zeV:∀ l m:List Ex,zC (l++m)=zC l+zC m
 | [],m=>by rw [zC];simp
 | x::l,m=>by rw [List.cons_append,zC,zC,zeV l m];omega
def visH (xs:List Int) (g:Nat):AH:=[(0, .row 1 [[.own 1 0 g 0 xs.length]] 0),(1, .row 1 (xs.map cI) g)]
def zjF (op v:Int):List Int:=if op=2 then [v] else []
theorem zvQ {op v:Int}:(zjF op v).length≤1:=by unfold zjF;split<;>simp
theorem zoz (op n v w:Int) (l:List Ex) (xs:List Int) (g:Nat) (hx:xs.length≤200000) :
  zad Tryz.prog zfo [.agg (encX (.mk op n v w l)), .ptr 0 0 0 0 0] (visH xs g) 2 (fun r H nx=>∃ g',r=.tup []∧H=visH (xs++zjF op v) g'∧nx=2):=by
 refine zbZ (fn_x zqX rfl ?_)
 unfold zlQ
 have hB:=hBig
 rw [zbu]
 unfold zjF
 by_cases h:op=2
 ·
  rw [if_pos h]
  (repeat first | simp (disch:=try exact dis1) only [evD,Nat.reduceBEq,Nat.reduceAdd,Nat.reduceLeDiff,visH,dT h] | with_reducible intro _ | ((with_reducible apply And.intro);omega))
  (repeat first | simp (disch:=try exact dis1) only [evD,Nat.reduceBEq,Nat.reduceAdd,Nat.reduceLeDiff,ziO] | with_reducible intro _ | ((with_reducible apply And.intro);omega))
  exact ⟨.tup [],visH (xs++[v]) (g+1),2,(Ent.tabB [(0,0,0),(1,1,0)] [] rfl rfl rfl (by (try simp only [evWB,Nat.reduceBEq,Nat.reduceAdd,Nat.reduceSub,Nat.reduceLeDiff,Nat.reduceLT,implies_true,visH])<;>exact fin1) (by (try simp only [evWB,Nat.reduceBEq,Nat.reduceAdd,Nat.reduceSub,Nat.reduceLeDiff,Nat.reduceLT,implies_true,visH])<;>exact fin1)),g+1,rfl,rfl,rfl⟩
 ·
  rw [if_neg h]
  (repeat first | simp (disch:=try exact dis1) only [evD,Nat.reduceBEq,Nat.reduceAdd,Nat.reduceLeDiff,visH,dF h,ziO] | with_reducible intro _ | ((with_reducible apply And.intro);omega))
  refine ⟨.tup [],visH xs g,2,?_,g,rfl,rfl,rfl⟩
  exact (Ent.tabB [(0,0,0),(1,1,0)] [] rfl rfl rfl (by (try simp only [evWB,Nat.reduceBEq,Nat.reduceAdd,Nat.reduceSub,Nat.reduceLeDiff,Nat.reduceLT,implies_true,visH])<;>exact fin1) (by (try simp only [evWB,Nat.reduceBEq,Nat.reduceAdd,Nat.reduceSub,Nat.reduceLeDiff,Nat.reduceLT,implies_true,visH])<;>exact fin1))
def visF:AV:=.fn (.func zfo) [.ptr 0 0 0 0 0]
theorem zpY:∀ (k:Nat) (e:Ex) (xs:List Int) (g:Nat),zaU e≤k→xs.length+zaU e≤100000 →
  zad Tryz.prog zi9 [.agg (encX e),visF] (visH xs g) 2 (fun r H nx=>∃ g',r=.tup []∧H=visH (xs++occX e) g'∧nx=2):=by
 intro k
 induction k with
 | zero=>intro e xs g h;obtain ⟨_,_,_,_,l⟩:=e;rw [zaU] at h;omega
 | succ k ih =>
 intro e xs g hk hx
 obtain ⟨op,n,v,w,l⟩:=e
 rw [zaU] at hk hx
 refine zbZ (fn_x zsK rfl ?_)
 unfold znx
 have hB:=hBig
 have hlen:=zi1 l
 have h1:=zoz op n v w l xs g (by omega)
 have hv1:=zvQ (op:=op) (v:=v)
 rw [zbu] at h1 ⊢
 (repeat first | simp (disch:=try exact dis1) only [evD,Nat.reduceBEq,Nat.reduceAdd,Nat.reduceLeDiff,visF,visH] | with_reducible intro _ | ((with_reducible apply And.intro);omega))
 refine ⟨by kernel_rfl,?_⟩
 refine zX [(0,0,0),(1,1,0)] 2 _ (h1) rfl rfl (by (try simp only [evWB,Nat.reduceBEq,Nat.reduceAdd,Nat.reduceSub,Nat.reduceLeDiff,Nat.reduceLT,implies_true,visH])<;>exact fin1) (by (try simp only [evWB,Nat.reduceBEq,Nat.reduceAdd,Nat.reduceSub,Nat.reduceLeDiff,Nat.reduceLT,implies_true,visH])<;>exact fin1) ?_
 rintro r H' nx' ⟨g',rfl,rfl,rfl⟩
 (repeat first | simp (disch:=try exact dis1) only [evD,Nat.reduceBEq,Nat.reduceAdd,Nat.reduceLeDiff,visH] | with_reducible intro _ | ((with_reducible apply And.intro);omega))
 have hocc:occX (.mk op n v w l)=zjF op v++zcs l:=by rw [occX];rfl
 rw [hocc]
 refine zg (fun a:Nat × Nat=>([(1, .fn (.func zfo) [.ptr 0 0 0 0 0]),(10,encL 5 encX l),(11, .int .i64 l.length),(12, .int .i64 a.1)],visH (xs++(zjF op v++zcs (l.take a.1))) a.2)) 2
  (fun a=>a.1≤l.length) (fun a=>l.length - a.1) (0,g') (Nat.zero_le _) (Ent.tabB [(0,0,0),(1,1,0)] [] rfl rfl rfl (by (try simp only [evWB,Nat.reduceBEq,Nat.reduceAdd,Nat.reduceSub,Nat.reduceLeDiff,Nat.reduceLT,implies_true,List.take_zero,zcs,List.append_nil,visH])<;>exact fin1) (by (try simp only [evWB,Nat.reduceBEq,Nat.reduceAdd,Nat.reduceSub,Nat.reduceLeDiff,Nat.reduceLT,implies_true,List.take_zero,zcs,List.append_nil,visH])<;>exact fin1)) ?_
 rintro ⟨i,gi⟩ hi wf
 simp only at hi
 unfold zjE
 (repeat first | simp (disch:=try exact dis1) only [evD,Nat.reduceBEq,Nat.reduceAdd,Nat.reduceLeDiff,visH] | with_reducible intro _ | ((with_reducible apply And.intro);omega))
 (refine zaJ (fun h=>?_) (fun h=>?_))<;>(try simp only [dcd] at h)
 ·
  have hi':i < l.length:=by omega
  have htk:zcs (l.take (i+1))=zcs (l.take i)++occX l[i]:=by
   rw [List.take_add_one,List.getElem?_eq_getElem hi',zlL]
   congr 1
   show zcs [l[i]]=_
   rw [zcs,zcs,List.append_nil]
  have hs:zC l=zC (l.take i)+zC (l.drop i):=by rw [← zeV,List.take_append_drop]
  have hs2:=zg5 hi'
  have ho:=zog (l.take i)
  have hc:=ih l[i] (xs++(zjF op v++zcs (l.take i))) gi (by omega) (by simp only [List.length_append];omega)
  have e1:xs++(zjF op v++zcs (l.take i))++occX l[i]=xs++(zjF op v++zcs (l.take (i+1))):=by rw [htk];simp
  rw [e1] at hc
  (repeat first | simp (disch:=try exact dis1) only [evD,Nat.reduceBEq,Nat.reduceAdd,Nat.reduceLeDiff,zp hi'] | with_reducible intro _ | ((with_reducible apply And.intro);omega))
  generalize l[i]=x at hc ⊢
  obtain ⟨o2,n2,v2,w2,l2⟩:=x
  simp only [zbu] at hc ⊢
  (repeat first | simp (disch:=try exact dis1) only [evD,Nat.reduceBEq,Nat.reduceAdd,Nat.reduceLeDiff] | with_reducible intro _ | ((with_reducible apply And.intro);omega))
  refine zX [(0,0,0),(1,1,0)] 2 _ (hc) rfl rfl (by (try simp only [evWB,Nat.reduceBEq,Nat.reduceAdd,Nat.reduceSub,Nat.reduceLeDiff,Nat.reduceLT,implies_true,visH,visF])<;>exact fin1) (by (try simp only [evWB,Nat.reduceBEq,Nat.reduceAdd,Nat.reduceSub,Nat.reduceLeDiff,Nat.reduceLT,implies_true,visH,visF])<;>exact fin1) ?_
  rintro r H' nx' ⟨g2,rfl,rfl,rfl⟩
  (repeat first | simp (disch:=try exact dis1) only [evD,Nat.reduceBEq,Nat.reduceAdd,Nat.reduceLeDiff,visH] | with_reducible intro _ | ((with_reducible apply And.intro);omega))
  exact ⟨(i+1,g2),by simp only;omega,by simp only;omega,(Ent.tabB [(0,0,0),(1,1,0)] [] rfl rfl rfl (by (try simp only [evWB,Nat.reduceBEq,Nat.reduceAdd,Nat.reduceSub,Nat.reduceLeDiff,Nat.reduceLT,implies_true,visH])<;>exact fin1) (by (try simp only [evWB,Nat.reduceBEq,Nat.reduceAdd,Nat.reduceSub,Nat.reduceLeDiff,Nat.reduceLT,implies_true,visH])<;>exact fin1))⟩
 ·
  have hi':l.length≤i:=by omega
  (repeat first | simp (disch:=try exact dis1) only [evD,Nat.reduceBEq,Nat.reduceAdd,Nat.reduceLeDiff,zmX] | with_reducible intro _ | ((with_reducible apply And.intro);omega))
  refine ⟨.tup [],visH (xs++(zjF op v++zcs l)) gi,2,?_,gi,rfl,rfl,rfl⟩
  rw [List.take_of_length_le hi']
  exact (Ent.tabB [(0,0,0),(1,1,0)] [] rfl rfl rfl (by (try simp only [evWB,Nat.reduceBEq,Nat.reduceAdd,Nat.reduceSub,Nat.reduceLeDiff,Nat.reduceLT,implies_true,visH])<;>exact fin1) (by (try simp only [evWB,Nat.reduceBEq,Nat.reduceAdd,Nat.reduceSub,Nat.reduceLeDiff,Nat.reduceLT,implies_true,visH])<;>exact fin1))
theorem zpi {l:List Int} (hs:l.Pairwise (·≤·)):∀ n,n≤l.length→Asc (zaz l n)∧∀ x,x∈zaz l n↔∃ j,∃ h:j < l.length,j < n∧l[j]=x
 |
  0,_=>by
  refine ⟨List.Pairwise.nil,fun x=>⟨fun h=>?_,fun ⟨j,_,h,_⟩=>absurd h (Nat.not_lt_zero _)⟩⟩
  have:zaz l 0=[]:=rfl
  rw [this] at h
  cases h
 |
  n+1,hn=>by
  obtain ⟨h1,h2⟩:=zpi hs n (by omega)
  have hp:=List.pairwise_iff_getElem.1 hs
  cases hk:zfU l n with
  |
   true =>
   rw [zk0 (by omega) hk]
   refine ⟨List.pairwise_append.2 ⟨h1,List.pairwise_singleton _ _,fun a ha b hb=>?_⟩,fun x=>?_⟩
   ·
    obtain ⟨j,hj,hjn,rfl⟩:=(h2 a).1 ha
    rw [List.mem_singleton] at hb
    subst hb
    have hne:l[n]≠l[n - 1]:=by
     have:=zgL (l:=l) (j:=n) (by omega) (by omega)
     rw [hk] at this
     simpa using this.symm
    have a1:=hp (n - 1) n (by omega) (by omega) (by omega)
    rcases Nat.lt_or_ge j (n - 1) with h3 | h3
    ·
     have:=hp j (n - 1) hj (by omega) h3
     omega
    ·
     obtain rfl:j=n - 1:=by omega
     omega
   ·
    rw [List.mem_append,List.mem_singleton,h2]
    constructor
    ·
     rintro (⟨j,hj,hjn,rfl⟩ | rfl)
     · exact ⟨j,hj,by omega,rfl⟩
     · exact ⟨n,by omega,by omega,rfl⟩
    ·
     rintro ⟨j,hj,hjn,rfl⟩
     rcases Nat.lt_or_ge j n with h3 | h3
     · exact .inl ⟨j,hj,h3,rfl⟩
     ·
      obtain rfl:j=n:=by omega
      exact .inr rfl
  |
   false =>
   rw [znH hk]
   refine ⟨h1,fun x=>?_⟩
   rw [h2]
   constructor
   ·
    rintro ⟨j,hj,hjn,rfl⟩
    exact ⟨j,hj,by omega,rfl⟩
   ·
    rintro ⟨j,hj,hjn,rfl⟩
    rcases Nat.lt_or_ge j n with h3 | h3
    · exact ⟨j,hj,h3,rfl⟩
    ·
     obtain rfl:j=n:=by omega
     have h0:1≤j:=by
      rcases Nat.eq_zero_or_pos j with rfl | h
      · cases hk
      · exact h
     have:=zgL (l:=l) (j:=j) h0 hj
     rw [hk] at this
     have he:l[j]=l[j - 1]:=by simpa using this.symm
     exact ⟨j - 1,by omega,by omega,he.symm⟩
theorem zqS (l m:List Int) (hm:Asc m) (h:∀ x,x∈m↔x∈l):zd9 (zcm l)=m:=by
 obtain ⟨h1,h2⟩:=zpi (zbI l) (zcm l).length (Nat.le_refl _)
 refine zpx h1 hm fun x=>?_
 rw [h,← (z8 l).mem_iff]
 show x∈zaz _ _↔_
 rw [h2,List.mem_iff_getElem]
 exact ⟨fun ⟨j,hj,_,e⟩=>⟨j,hj,e⟩,fun ⟨j,hj,e⟩=>⟨j,hj,hj,e⟩⟩
theorem zwh (e:Ex) (hk:zaU e≤100000):zz Tryz.prog znc [.agg (encX e)] (·=za (zdn e)):=by
 refine fn_x zvq rfl ?_
 unfold zoV
 have hB:=hBig
 have hc:=zpY (zaU e) e [] 0 (Nat.le_refl _) (by simp only [List.length_nil];omega)
 have hl:=zu0 e
 have hcs:=zqS (occX e) (zdn e) (zyb e) fun x=>zkl e
 rw [List.nil_append] at hc
 generalize occX e=xs at hc hl hcs
 generalize zdn e=vs at hcs ⊢
 obtain ⟨op,n,v,w,l⟩:=e
 simp only [zbu] at hc ⊢
 (repeat first | simp (disch:=try exact dis1) only [evD,Nat.reduceBEq,Nat.reduceAdd,Nat.reduceLeDiff] | with_reducible intro _ | ((with_reducible apply And.intro);omega))
 refine zX [(0,1,0)] 2 _ (hc) rfl rfl (by (try simp only [evWB,Nat.reduceBEq,Nat.reduceAdd,Nat.reduceSub,Nat.reduceLeDiff,Nat.reduceLT,implies_true,visH,visF])<;>exact fin1) (by (try simp only [evWB,Nat.reduceBEq,Nat.reduceAdd,Nat.reduceSub,Nat.reduceLeDiff,Nat.reduceLT,implies_true,visH,visF])<;>exact fin1) ?_
 rintro r H' nx' ⟨g',rfl,rfl,rfl⟩
 (repeat first | simp (disch:=try exact dis1) only [evD,Nat.reduceBEq,Nat.reduceAdd,Nat.reduceLeDiff,visH] | with_reducible intro _ | ((with_reducible apply And.intro);omega))
 refine zlf (znF (zs:=xs) rfl (by omega)) ?_
 rintro _ _ _ hres
 simp only [Prod.mk.injEq] at hres
 obtain ⟨rfl,rfl,rfl⟩:=hres
 have hsl:(zcm xs).length=xs.length:=(z8 xs).length_eq
 have hcl:=zvb (l:=zcm xs) (n:=(zcm xs).length)
 rw [← hsl]
 generalize zcm xs=ss at hcs hsl hcl ⊢
 (repeat first | simp (disch:=try exact dis1) only [evD,Nat.reduceBEq,Nat.reduceAdd,Nat.reduceLeDiff] | with_reducible intro _ | ((with_reducible apply And.intro);omega))
 refine zX [(0,3,0)] 1 _ (zpZ ss g' (by omega)) rfl rfl (by (try simp only [evWB,Nat.reduceBEq,Nat.reduceAdd,Nat.reduceSub,Nat.reduceLeDiff,Nat.reduceLT,implies_true])<;>exact fin1) (by (try simp only [evWB,Nat.reduceBEq,Nat.reduceAdd,Nat.reduceSub,Nat.reduceLeDiff,Nat.reduceLT,implies_true])<;>exact fin1) ?_
 rintro _ _ _ ⟨m,rfl,rfl,rfl⟩
 have hcl2:(zd9 ss).length≤ss.length:=hcl
 rw [hcs] at hcl2 ⊢
 (repeat first | simp (disch:=try exact dis1) only [evD,Nat.reduceBEq,Nat.reduceAdd,Nat.reduceLeDiff,zpm] | with_reducible intro _ | ((with_reducible apply And.intro);omega))
 refine ⟨_,?_,rfl⟩
 exact zzD (m:=m) trivial rfl (by omega)
theorem zkI {c:Int} {ps:List (Int × Int)} (h:SetS c ps) {m:List Int} (hm:Asc m) (he:∀ x,x∈m↔x∈ps.map (·.1)):zcm (ps.map (·.1))=m:=by
 refine zpx ?_ hm fun x=>?_
 ·
  have h1:=zbI (ps.map (·.1))
  have h2:(zcm (ps.map (·.1))).Nodup:=(z8 _).nodup_iff.2 h.keys
  refine List.Pairwise.imp₂ (fun a b hle hne=>?_) h1 h2
  omega
 · rw [he,(z8 _).mem_iff]
theorem renM {ρ:Nat→Nat} {l:List MC} {g:Nat}:AObj.ren ρ (.row 3 (l.map cm) g)=.row 3 (l.map cm) g:=by
 simp only [AObj.ren]
 rw [zg2 (zh zS)]
theorem renF {ρ:Nat→Nat} {n:Nat} {S:Nat→MS}:AObj.ren ρ (famS n S)=famS n S:=by
 unfold famS fi
 simp only [AObj.ren,List.map_map]
 congr 1
 refine List.map_congr_left fun i _=>?_
 show (List.map _ _,_)=_
 rw [zg2 (zh zS)]
theorem renE {ρ:Nat→Nat} {l:List Int}:AV.ren ρ (za l)=za l:=znW rfl
def zgV (s:MS) (l:List Ex):MS:=l.foldl (fun a x=>addL a (zdn x)) s
theorem zvx {s:MS} {l:List Ex} {i:Nat} (h:i < l.length):zgV s (l.take (i+1))=addL (zgV s (l.take i)) (zdn l[i]):=by
 unfold zgV
 rw [List.take_add_one,List.getElem?_eq_getElem h,List.foldl_append]
 rfl
theorem zrv {y:Int}:∀ {l:List Ex} {s:MS},y∈(zgV s l).keys↔y∈s.keys∨y∈zcs l
 | [],s=>by rw [zcs];simp [zgV]
 |
  x::l,s=>by
  show y∈(zgV (addL s (zdn x)) l).keys↔_
  rw [zrv,zd3,zkl,zcs,List.mem_append,or_assoc]
theorem zuO:∀ {l:List Ex} {s:MS},s.ok→s.1+zC l≤1000000→s.2.length+zC l≤1000000→(zgV s l).ok∧(zgV s l).1≤s.1+zC l∧(zgV s l).2.length≤s.2.length+zC l
 |
  [],s,h,_,_=>by
  rw [zC]
  exact ⟨h,by show s.1≤_;omega,by show s.2.length≤_;omega⟩
 |
  x::l,s,h,h1,h2=>by
  rw [zC] at h1 h2 ⊢
  have hb:=zc7 (l:=zdn x) (s:=s)
  have hv:=zgx x
  have h3:=zj6 (l:=zdn x) h (by omega) (by omega)
  obtain ⟨h4,h5,h6⟩:=zuO (l:=l) h3 (by omega) (by omega)
  exact ⟨h4,by show (zgV (addL s (zdn x)) l).1≤_;omega,by show (zgV (addL s (zdn x)) l).2.length≤_;omega⟩
theorem znk:MS.ok (0,[]):=⟨List.nodup_nil,List.nodup_nil,(fun _ h=>nomatch h),by simp,by simp⟩
theorem znD {l:List Ex} {i:Nat}:zC (l.take i)≤zC l:=by
 have:zC l=zC (l.take i)+zC (l.drop i):=by rw [← zeV,List.take_append_drop]
 omega
theorem zhQ (s:St) (hs:zC s.e≤100000):zz Tryz.prog zdo [.agg s.cells] (·=za (zcF s)):=by
 refine fn_x zmk rfl ?_
 unfold zhA
 have hB:=hBig
 obtain ⟨op,var,width,next,els,tgt,l,cs⟩:=s
 simp only at hs
 have hasc:=zxK ⟨op,var,width,next,els,tgt,l,cs⟩
 have hmem:∀ x,x∈zcF ⟨op,var,width,next,els,tgt,l,cs⟩↔x∈(zgV (0,[]) l).2.map (·.1):=fun x=>by
  show x∈zjT [] l↔x∈(zgV (0,[]) l).keys
  rw [zqW,zrv]
  simp [MS.keys]
 have hok:=fun i=>zuO (l:=l.take i) (s:=(0,[])) znk (by have:=znD (l:=l) (i:=i);simp only;omega) (by have:=znD (l:=l) (i:=i);simp only [List.length_nil];omega)
 generalize zcF ⟨op,var,width,next,els,tgt,l,cs⟩=R at hasc hmem ⊢
 (repeat first | simp (disch:=try exact dis1) only [evD,Nat.reduceBEq,Nat.reduceAdd,Nat.reduceLeDiff,fldP,St.cells,za] | with_reducible intro _ | ((with_reducible apply And.intro);omega))
 refine zg (fun i:Nat=>([(3, .mp 0 0),(8,encL 5 encX l),(9, .int .i64 l.length),(10, .int .i64 i)],[(0, .row 3 ((setM (zgV (0,[]) (l.take i)).1 (zgV (0,[]) (l.take i)).2).map cm) 0)])) 1
  (fun i=>i≤l.length) (fun i=>l.length - i) 0 (Nat.zero_le _) (by rw [List.take_zero,show zgV (0,[]) []=(0,[]) from rfl];exact (Ent.tab [(0,1,0)] [] rfl (by (try simp only [evWB,Nat.reduceBEq,Nat.reduceAdd,Nat.reduceSub,Nat.reduceLeDiff,Nat.reduceLT,implies_true,zw])<;>exact fin6) (by (try simp only [evWB,Nat.reduceBEq,Nat.reduceAdd,Nat.reduceSub,Nat.reduceLeDiff,Nat.reduceLT,implies_true,zw])<;>exact fin6))) ?_
 rintro i hi wf
 unfold zfz
 by_cases hil:i < l.length
 ·
  have hsd:=zg5 hil
  have hst:zC l=zC (l.take i)+zC (l.drop i):=by rw [← zeV,List.take_append_drop]
  obtain ⟨h1,h2,h3⟩:=hok i
  have hvl:=zgx l[i]
  have htk:=zvx (s:=(0,[])) hil
  (repeat first | simp (disch:=try exact dis1) only [evD,Nat.reduceBEq,Nat.reduceAdd,Nat.reduceLeDiff,fldP,dT,zp hil,zax,zZ,zw] | with_reducible intro _ | ((with_reducible apply And.intro);omega))
  refine zi (zk (zwh l[i] (by omega)) (flX rfl)) ?_
  generalize zdn l[i]=u at hvl htk ⊢
  generalize zgV (0,[]) (l.take i)=a at h1 h2 h3 htk ⊢
  simp only [List.length_nil,Nat.zero_add,Int.zero_add] at h2 h3
  (repeat first | simp (disch:=try exact dis1) only [evD,Nat.reduceBEq,Nat.reduceAdd,Nat.reduceLeDiff] | with_reducible intro _ | ((with_reducible apply And.intro);omega))
  refine zX [(0,0,0)] 1 _ (zgJ a u h1 (by omega) (by omega)) rfl rfl (by (try simp only [evWB,Nat.reduceBEq,Nat.reduceAdd,Nat.reduceSub,Nat.reduceLeDiff,Nat.reduceLT,implies_true,zw])<;>exact fin6) (by (try simp only [evWB,Nat.reduceBEq,Nat.reduceAdd,Nat.reduceSub,Nat.reduceLeDiff,Nat.reduceLT,implies_true,zw])<;>exact fin6) ?_
  rintro _ _ _ ⟨rfl,rfl,rfl⟩
  (repeat first | simp (disch:=try exact dis1) only [evD,Nat.reduceBEq,Nat.reduceAdd,Nat.reduceLeDiff,renM] | with_reducible intro _ | ((with_reducible apply And.intro);omega))
  exact ⟨i+1,by omega,by omega,(Ent.tab [(0,0,0)] [] rfl (by (try simp only [evWB,Nat.reduceBEq,Nat.reduceAdd,Nat.reduceSub,Nat.reduceLeDiff,Nat.reduceLT,implies_true,zw,htk])<;>exact fin6) (by (try simp only [evWB,Nat.reduceBEq,Nat.reduceAdd,Nat.reduceSub,Nat.reduceLeDiff,Nat.reduceLT,implies_true,zw,htk])<;>exact fin6))⟩
 ·
  (repeat first | simp (disch:=try exact dis1) only [evD,Nat.reduceBEq,Nat.reduceAdd,Nat.reduceLeDiff,dF] | with_reducible intro _ | ((with_reducible apply And.intro);omega))
  unfold ze6
  obtain ⟨h1,h2,h3⟩:=hok l.length
  have hso:=zkI (c:=(zgV (0,[]) l).1) (ps:=(zgV (0,[]) l).2) (by rw [List.take_length] at h1;exact h1) hasc hmem
  rw [List.take_length] at h1 h2 h3
  rw [List.take_of_length_le (by omega)]
  generalize zgV (0,[]) l=a at h1 h2 h3 hso ⊢
  (repeat first | simp (disch:=try exact dis1) only [evD,Nat.reduceBEq,Nat.reduceAdd,Nat.reduceLeDiff,zw] | with_reducible intro _ | ((with_reducible apply And.intro);omega))
  refine zX [(0,0,0)] 1 _ (zmH a.1 a.2 h1) rfl rfl (by (try simp only [evWB,Nat.reduceBEq,Nat.reduceAdd,Nat.reduceSub,Nat.reduceLeDiff,Nat.reduceLT,implies_true,zw])<;>exact fin6) (by (try simp only [evWB,Nat.reduceBEq,Nat.reduceAdd,Nat.reduceSub,Nat.reduceLeDiff,Nat.reduceLT,implies_true,zw])<;>exact fin6) ?_
  rintro _ _ _ ⟨rfl,rfl,rfl⟩
  rw [hso]
  (repeat first | simp (disch:=try exact dis1) only [evD,Nat.reduceBEq,Nat.reduceAdd,Nat.reduceLeDiff,renM,renE,zhN] | with_reducible intro _ | ((with_reducible apply And.intro);omega))
  exact ⟨_,zT rfl,rfl⟩
def del1 (s:MS) (v:Int):MS:=(s.1,s.2.filter fun p=>p.1 != v)
def delL (s:MS) (l:List Int):MS:=l.foldl del1 s
theorem zx6 {s:MS} {l:List Int} {i:Nat} (h:i < l.length):delL s (l.take (i+1))=del1 (delL s (l.take i)) l[i]:=by
 unfold delL
 rw [List.take_add_one,List.getElem?_eq_getElem h,List.foldl_append]
 rfl
theorem zrz {s:MS} {v:Int} (h:v∉s.2.map (·.1)):del1 s v=s:=by
 unfold del1
 rw [List.filter_eq_self.2 fun p hp=>?_]
 simp only [bne_iff_ne,ne_eq]
 exact fun e=>h (List.mem_map.2 ⟨p,hp,e⟩)
theorem zl3 {v:Int}:∀ {ps:List (Int × Int)} {j:Nat},(ps.map (·.1)).Nodup→(h:j < ps.length)→ps[j].1=v→ps.eraseIdx j=ps.filter fun p=>p.1 != v
 |
  p::ps,0,hn,_,he=>by
  simp only [List.map_cons,List.nodup_cons] at hn
  simp only [List.getElem_cons_zero] at he
  have h1:=zrz (s:=((0:Int),ps)) (v:=v) (by rw [← he];exact hn.1)
  have h2:ps.filter (fun p=>p.1 != v)=ps:=congrArg Prod.snd h1
  rw [List.eraseIdx_cons_zero,List.filter_cons,he,h2]
  simp
 |
  p::ps,j+1,hn,hj,he=>by
  simp only [List.map_cons,List.nodup_cons] at hn
  simp only [List.getElem_cons_succ] at he
  have hj':j < ps.length:=by simpa using hj
  have hne:p.1≠v:=fun e=>hn.1 (List.mem_map.2 ⟨ps[j],List.getElem_mem hj',by rw [he,e]⟩)
  rw [List.eraseIdx_cons_succ,List.filter_cons,zl3 hn.2 hj' he]
  simp [hne]
theorem SetS.filter {c:Int} {ps:List (Int × Int)} (h:SetS c ps) (f:Int × Int→Bool):SetS c (ps.filter f):=by
 have hsub:(ps.filter f).Sublist ps:=List.filter_sublist
 exact ⟨h.keys.sublist (hsub.map _),h.borns.sublist (hsub.map _),fun p hp=>h.lt p (hsub.mem hp),h.top,Nat.le_trans hsub.length_le h.len⟩
theorem ztN:∀ {l:List Int} {s:MS},s.ok→(delL s l).ok∧(delL s l).1=s.1∧(delL s l).2.length≤s.2.length
 | [],s,h=>⟨h,rfl,Nat.le_refl _⟩
 |
  v::l,s,h=>by
  obtain ⟨h1,h2,h3⟩:=ztN (l:=l) (s:=del1 s v) (SetS.filter h _)
  exact ⟨h1,h2,Nat.le_trans h3 (List.length_filter_le _ _)⟩
theorem zpV {y:Int}:∀ {l:List Int} {s:MS},y∈(delL s l).keys↔y∈s.keys∧y∉l
 | [],s=>by simp [delL]
 |
  v::l,s=>by
  show y∈(delL (del1 s v) l).keys↔_
  rw [zpV]
  have:y∈(del1 s v).keys↔y∈s.keys∧y≠v:=by
   simp only [MS.keys,del1,List.mem_map,List.mem_filter,bne_iff_ne,ne_eq]
   constructor
   · rintro ⟨p,⟨h1,h2⟩,rfl⟩;exact ⟨⟨p,h1,rfl⟩,h2⟩
   · rintro ⟨⟨p,h1,rfl⟩,h2⟩;exact ⟨p,⟨h1,h2⟩,rfl⟩
  rw [this,List.mem_cons,not_or,and_assoc]
theorem zsf {α β:Type} {f:α→β}:∀ {l:List α} {j:Nat},(l.map f).eraseIdx j=(l.eraseIdx j).map f
 | [],_=>rfl
 | _::_,0=>rfl
 | a::l,j+1=>congrArg (f a::·) (zsf (l:=l) (j:=j))
theorem zx2 {ps:List (Int × Int)} {j:Nat}:((enL ps).map cm).eraseIdx j=(enL (ps.eraseIdx j)).map cm:=by
 unfold enL
 rw [List.map_map,List.map_map,zsf]
def zdy (exit:List Int) (s:St) (a:MS):MS :=
 let b:=addL (delL a (zhV s)) (zcF s)
 if zg4 s=true then addL b exit else b
theorem zkg (s:St):(zcF s).length≤zC s.e:=by
 have:∀ (l:List Ex) (a:List Int),(zjT a l).length≤a.length+zC l:=by
  intro l
  induction l with
  | nil=>intro a;rw [zjT,zC];simp
  |
   cons x l ih =>
   intro a
   rw [zjT,zC]
   have h1:=ih (zaY a (zdn x))
   have h2:=zdT (a:=a) (b:=zdn x)
   have h3:=zgx x
   omega
 have:=this s.e []
 show (zjT [] s.e).length≤_
 simpa using this
theorem zt7 {exit:List Int} {s:St} {a:MS} (h:a.ok) (h1:a.1+zC s.e+exit.length≤1000000) (h2:a.2.length+zC s.e+exit.length≤1000000) :
  (zdy exit s a).ok∧(zdy exit s a).1≤a.1+zC s.e+exit.length∧(zdy exit s a).2.length≤a.2.length+zC s.e+exit.length:=by
 obtain ⟨d1,d2,d3⟩:=ztN (l:=zhV s) h
 have hu:=zkg s
 have u1:=zc7 (l:=zcF s) (s:=delL a (zhV s))
 have u2:=zj6 (l:=zcF s) d1 (by omega) (by omega)
 unfold zdy
 simp only
 split
 ·
  have e1:=zc7 (l:=exit) (s:=addL (delL a (zhV s)) (zcF s))
  have e2:=zj6 (l:=exit) u2 (by omega) (by omega)
  exact ⟨e2,by omega,by omega⟩
 · exact ⟨u2,by omega,by omega⟩
theorem znp {exit:List Int} {s:St} {a:MS} {l:List Int} (h:∀ x,x∈a.keys↔x∈l) (y:Int):y∈(zdy exit s a).keys↔y∈zbi exit s l:=by
 unfold zdy
 simp only
 rw [zcY]
 split
 ·
  rename_i hl
  rw [zd3,zd3,zpV,h]
  simp [hl,or_assoc]
 ·
  rename_i hl
  rw [zd3,zpV,h]
  simp [hl]
theorem zht (a:MS) (s:St) (exit:List Int) (ha:a.ok) (hsz:zC s.e≤100000) (h1:a.1+zC s.e+exit.length≤1000000) (h2:a.2.length+zC s.e+exit.length≤1000000) :
  zad Tryz.prog zde [.mp 0 0, .agg s.cells,za exit] [(0, .row 3 ((setM a.1 a.2).map cm) 0)] 1
  (fun v H nx=>v=.tup []∧H=[(0, .row 3 ((setM (zdy exit s a).1 (zdy exit s a).2).map cm) 0)]∧nx=1):=by
 refine zbZ (fn_x zme rfl ?_)
 unfold zhB
 have hB:=hBig
 have hdef:=zl8 s
 have huse:=zhQ s hsz
 have hlv:=zkJ s
 have hb:zdy exit s a=if zg4 s=true then addL (addL (delL a (zhV s)) (zcF s)) exit else addL (delL a (zhV s)) (zcF s):=rfl
 have hu:=zkg s
 rw [hb]
 generalize zdy exit s a=bs at hb
 generalize zhV s=ds at hdef ⊢
 generalize zcF s=us at huse hu ⊢
 generalize zg4 s=lv at hlv ⊢
 have hok:=fun i=>ztN (l:=ds.take i) ha
 obtain ⟨op,var,width,next,els,tgt,l,cs⟩:=s
 simp only at h1 h2 hu
 (repeat first | simp (disch:=try exact dis1) only [evD,Nat.reduceBEq,Nat.reduceAdd,Nat.reduceLeDiff,St.cells,za] | with_reducible intro _ | ((with_reducible apply And.intro);omega))
 refine zi (zk hdef rfl) ?_
 (repeat first | simp (disch:=try exact dis1) only [evD,Nat.reduceBEq,Nat.reduceAdd,Nat.reduceLeDiff,za] | with_reducible intro _ | ((with_reducible apply And.intro);omega))
 refine zg (fun i:Nat=>([(0, .mp 0 0),(2,za exit),(4,encP 8 (St.cells ⟨op,var,width,next,els,tgt,l,cs⟩)),(9,za ds),(10, .int .i64 ds.length),(11, .int .i64 i)],[(0, .row 3 ((setM (delL a (ds.take i)).1 (delL a (ds.take i)).2).map cm) 0)])) 1
  (fun i=>i≤ds.length) (fun i=>ds.length - i) 0 (Nat.zero_le _) (by rw [List.take_zero,show delL a []=a from rfl];exact (Ent.tabB [(0,0,0)] [] rfl rfl rfl (by (try simp only [evWB,Nat.reduceBEq,Nat.reduceAdd,Nat.reduceSub,Nat.reduceLeDiff,Nat.reduceLT,implies_true,zw,za,St.cells])<;>exact fin6) (by (try simp only [evWB,Nat.reduceBEq,Nat.reduceAdd,Nat.reduceSub,Nat.reduceLeDiff,Nat.reduceLT,implies_true,zw,za,St.cells])<;>exact fin6))) ?_
 rintro i hi wf
 unfold zfi
 by_cases hil:i < ds.length
 ·
  have hgl:=zp (f:=cI) (d:=[]) hil
  have htk:=zx6 (s:=a) hil
  obtain ⟨g1,g2,g3⟩:=hok i
  generalize delL a (ds.take i)=b at g1 g2 g3 htk ⊢
  obtain ⟨c,ps⟩:=b
  by_cases hm:ds[i]∈ps.map (·.1)
  ·
   obtain ⟨j,hj,hje,hf⟩:=zkv hm
   have e1:del1 (c,ps) ds[i]=(c,ps.eraseIdx j):=by unfold del1;rw [zl3 g1.keys hj hje]
   rw [e1] at htk
   (repeat first | simp (disch:=try exact dis1) only [evD,Nat.reduceBEq,Nat.reduceAdd,Nat.reduceLeDiff,dT,hgl,za,zw,evM,zsm,hf,mdTo,zx2] | with_reducible intro _ | ((with_reducible apply And.intro);omega))
   exact ⟨i+1,by omega,by omega,(Ent.tabB [(0,0,0)] [] rfl rfl rfl (by (try simp only [evWB,Nat.reduceBEq,Nat.reduceAdd,Nat.reduceSub,Nat.reduceLeDiff,Nat.reduceLT,implies_true,zw,za,htk,St.cells])<;>exact fin6) (by (try simp only [evWB,Nat.reduceBEq,Nat.reduceAdd,Nat.reduceSub,Nat.reduceLeDiff,Nat.reduceLT,implies_true,zw,za,htk,St.cells])<;>exact fin6))⟩
  ·
   have hf:=zi5 hm
   have e1:del1 (c,ps) ds[i]=(c,ps):=zrz hm
   rw [e1] at htk
   (repeat first | simp (disch:=try exact dis1) only [evD,Nat.reduceBEq,Nat.reduceAdd,Nat.reduceLeDiff,dT,hgl,za,zw,evM,zsm,hf,mdTo] | with_reducible intro _ | ((with_reducible apply And.intro);omega))
   exact ⟨i+1,by omega,by omega,(Ent.tabB [(0,0,0)] [] rfl rfl rfl (by (try simp only [evWB,Nat.reduceBEq,Nat.reduceAdd,Nat.reduceSub,Nat.reduceLeDiff,Nat.reduceLT,implies_true,zw,za,htk,St.cells])<;>exact fin6) (by (try simp only [evWB,Nat.reduceBEq,Nat.reduceAdd,Nat.reduceSub,Nat.reduceLeDiff,Nat.reduceLT,implies_true,zw,za,htk,St.cells])<;>exact fin6))⟩
 ·
  obtain ⟨g1,g2,g3⟩:=hok i
  rw [List.take_of_length_le (by omega)] at g1 g2 g3 ⊢
  generalize delL a ds=b at g1 g2 g3 ⊢
  (repeat first | simp (disch:=try exact dis1) only [evD,Nat.reduceBEq,Nat.reduceAdd,Nat.reduceLeDiff,dF] | with_reducible intro _ | ((with_reducible apply And.intro);omega))
  unfold zfu
  (repeat first | simp (disch:=try exact dis1) only [evD,Nat.reduceBEq,Nat.reduceAdd,Nat.reduceLeDiff,encP,za,St.cells] | with_reducible intro _ | ((with_reducible apply And.intro);omega))
  refine zi (zk huse rfl) ?_
  (repeat first | simp (disch:=try exact dis1) only [evD,Nat.reduceBEq,Nat.reduceAdd,Nat.reduceLeDiff,zw] | with_reducible intro _ | ((with_reducible apply And.intro);omega))
  refine zX [(0,0,0)] 1 _ (zgJ b us g1 (by omega) (by omega)) rfl rfl (by (try simp only [evWB,Nat.reduceBEq,Nat.reduceAdd,Nat.reduceSub,Nat.reduceLeDiff,Nat.reduceLT,implies_true,zw])<;>exact fin6) (by (try simp only [evWB,Nat.reduceBEq,Nat.reduceAdd,Nat.reduceSub,Nat.reduceLeDiff,Nat.reduceLT,implies_true,zw])<;>exact fin6) ?_
  rintro _ _ _ ⟨rfl,rfl,rfl⟩
  have hb1:=zc7 (l:=us) (s:=b)
  have hb2:=zj6 (l:=us) g1 (by omega) (by omega)
  generalize addL b us=d at hb1 hb2 ⊢
  (repeat first | simp (disch:=try exact dis1) only [evD,Nat.reduceBEq,Nat.reduceAdd,Nat.reduceLeDiff,renM,encP,za,St.cells] | with_reducible intro _ | ((with_reducible apply And.intro);omega))
  refine zi (zk hlv rfl) ?_
  cases lv with
  |
   true =>
   rw [if_pos rfl]
   (repeat first | simp (disch:=try exact dis1) only [evD,Nat.reduceBEq,Nat.reduceAdd,Nat.reduceLeDiff,zw] | with_reducible intro _ | ((with_reducible apply And.intro);omega))
   refine zX [(0,0,0)] 1 _ (zgJ d exit hb2 (by omega) (by omega)) rfl rfl (by (try simp only [evWB,Nat.reduceBEq,Nat.reduceAdd,Nat.reduceSub,Nat.reduceLeDiff,Nat.reduceLT,implies_true,zw])<;>exact fin6) (by (try simp only [evWB,Nat.reduceBEq,Nat.reduceAdd,Nat.reduceSub,Nat.reduceLeDiff,Nat.reduceLT,implies_true,zw])<;>exact fin6) ?_
   rintro _ _ _ ⟨rfl,rfl,rfl⟩
   (repeat first | simp (disch:=try exact dis1) only [evD,Nat.reduceBEq,Nat.reduceAdd,Nat.reduceLeDiff,renM,zev] | with_reducible intro _ | ((with_reducible apply And.intro);omega))
   exact ⟨_,_,_,(Ent.tabB [(0,0,0)] [] rfl rfl rfl (by (try simp only [evWB,Nat.reduceBEq,Nat.reduceAdd,Nat.reduceSub,Nat.reduceLeDiff,Nat.reduceLT,implies_true,zw])<;>exact fin6) (by (try simp only [evWB,Nat.reduceBEq,Nat.reduceAdd,Nat.reduceSub,Nat.reduceLeDiff,Nat.reduceLT,implies_true,zw])<;>exact fin6)),rfl,rfl,rfl⟩
  |
   false =>
   rw [if_neg (by simp)]
   (repeat first | simp (disch:=try exact dis1) only [evD,Nat.reduceBEq,Nat.reduceAdd,Nat.reduceLeDiff,zev] | with_reducible intro _ | ((with_reducible apply And.intro);omega))
   exact ⟨_,_,_,(Ent.tabB [(0,0,0)] [] rfl rfl rfl (by (try simp only [evWB,Nat.reduceBEq,Nat.reduceAdd,Nat.reduceSub,Nat.reduceLeDiff,Nat.reduceLT,implies_true,zw])<;>exact fin6) (by (try simp only [evWB,Nat.reduceBEq,Nat.reduceAdd,Nat.reduceSub,Nat.reduceLeDiff,Nat.reduceLT,implies_true,zw])<;>exact fin6)),rfl,rfl,rfl⟩
def mps (F n:Nat):List (List AV):=(List.range n).map fun i=>[.mp F (i+1)]
theorem zgf {F n:Nat}:(mps F n).length=n:=by simp [mps]
theorem zep {F n i:Nat} (h:i < n):(mps F n).getD i []=[.mp F (i+1)]:=by simp [mps,List.getD_eq_getElem?_getD,h]
def bdH (n:Nat) (S T:Nat→MS):AH:=[(0, .row 1 (mps 2 n) 0),(1, .row 1 (mps 3 n) 0),(2,famS n S),(3,famS n T)]
theorem zhj {H HH:AH} {σ:Nat→Nat→Option (Nat × Nat × Nat)} {D:Nat→Nat→Prop} {F F' n:Nat} (h:∀ i,σ F' (i+1)=some (F,i+1,0)):RowV H HH σ D (mps F n) (mps F' n):=by
 refine ⟨by simp [mps],fun i c2 hi=>?_⟩
 unfold mps at hi ⊢
 simp only [List.getElem?_map,Option.map_eq_some_iff] at hi ⊢
 obtain ⟨k,hk,rfl⟩:=hi
 refine ⟨_,⟨k,hk,rfl⟩,rfl,fun j x y h1 h2=>?_⟩
 cases j with
 | succ j=>cases h1
 |
  zero =>
  cases h1
  cases h2
  exact .mp _ _ _ _ (h k)
def zaI (s:MS):List Int:=zcm s.keys
def addT (n:Nat) (S:Nat→MS) (a:MS) (t:Int):MS:=if 0≤t∧t < n then addL a (zaI (S t.toNat)) else a
theorem bd_l1 {Q:QT} (n b:Nat) (hb:b < n) (S T:Nat→MS) (ts exit:List Int) (sts:List St) (ch:Bool)
  (hS:∀ i,i < n→(S i).ok) (hT:(T b).ok) (hroom:∀ i,i < ts.length→(((ts.take i).foldl (addT n S) (T b)).ok∧∀ j,j < n→((ts.take i).foldl (addT n S) (T b)).1+(S j).2.length≤1000000∧((ts.take i).foldl (addT n S) (T b)).2.length+(S j).2.length≤1000000))
  (hlen:ts.length≤1000000) (hn:n≤1000000) (bl:List Bl) (ad:Int) (hbl:bl.length=n)
  (hfin:wpX Tryz.prog 0 zan Q [(1,za exit),(2,encP 2 [.int .u32 ad,encL 2 Bl.cells bl]),(6, .own 0 0 0 0 n),(7, .own 1 0 0 0 n),(9, .bool ch),(10, .int .i64 b),(11,encL 8 St.cells sts),(62,za ts),(63, .int .i64 ts.length),(64, .int .i64 ts.length),(65, .bool false)] (bdH n S (updF T b (ts.foldl (addT n S) (T b)))) 4)
  {K:Kn} {H:AH} {nx:Nat} (hent:Ent 0 K H nx [(1,za exit),(2,encP 2 [.int .u32 ad,encL 2 Bl.cells bl]),(6, .own 0 0 0 0 n),(7, .own 1 0 0 0 n),(9, .bool ch),(10, .int .i64 b),(11,encL 8 St.cells sts),(62,za ts),(63, .int .i64 ts.length),(64, .int .i64 0)] (bdH n S T) 4) :
  zhW Tryz.prog 0 zbr (zaZ 6 (seqQ Tryz.prog 0 zan Q)) K H nx:=by
 have hB:=hBig
 refine zg (fun i:Nat=>([(1,za exit),(2,encP 2 [.int .u32 ad,encL 2 Bl.cells bl]),(6, .own 0 0 0 0 n),(7, .own 1 0 0 0 n),(9, .bool ch),(10, .int .i64 b),(11,encL 8 St.cells sts),(62,za ts),(63, .int .i64 ts.length),(64, .int .i64 i)],bdH n S (updF T b ((ts.take i).foldl (addT n S) (T b))))) 4
  (fun i=>i≤ts.length) (fun i=>ts.length - i) 0 (Nat.zero_le _) (by rw [List.take_zero,List.foldl_nil,zrF];exact hent) ?_
 rintro i hi wf
 unfold zbr
 by_cases hil:i < ts.length
 ·
  have hgl:=zp (f:=cI) (d:=[]) hil
  obtain ⟨r1,r2⟩:=hroom i hil
  have hst:(ts.take (i+1)).foldl (addT n S) (T b)=addT n S ((ts.take i).foldl (addT n S) (T b)) ts[i]:=zh9 hil
  generalize (ts.take i).foldl (addT n S) (T b)=a at r1 r2 hst ⊢
  generalize ts[i]=t at hgl hst
  by_cases hin:0≤t∧t < n
  ·
   obtain ⟨t',rfl⟩:=Int.eq_ofNat_of_zero_le hin.1
   have ht:t' < n:=by omega
   (repeat first | simp (disch:=try exact dis1) only [evD,Nat.reduceBEq,Nat.reduceAdd,Nat.reduceLeDiff,dT,hgl,fldP,za,bdH,zgf,zep ht,zep hb] | with_reducible intro _ | ((with_reducible apply And.intro);omega))
   have hkl:(zaI (S t')).length=(S t').2.length:=by unfold zaI MS.keys;rw [(z8 _).length_eq,List.length_map]
   have hadd:=addL a (zaI (S t'))
   have e1:addT n S a (t':Int)=addL a (zaI (S t')):=by unfold addT;rw [if_pos hin];rfl
   rw [e1] at hst
   have hks:zcm ((S t').2.map (·.1))=zaI (S t'):=rfl
   have hT2:updF T b a b=a:=ziF
   have hsa:=zoi n b hb (updF T b a) (zaI (S t')) (by rw [hT2];exact r1) (by rw [hT2,hkl];exact (r2 t' ht).1) (by rw [hT2,hkl];exact (r2 t' ht).2)
   rw [hT2,zoM] at hsa
   (repeat' with_reducible apply And.intro)
   all_goals try omega
   all_goals (refine zX [(0,2,0)] 1 _ (zck n t' ht S (hS t' ht)) rfl rfl (by (try simp only [evWB,Nat.reduceBEq,Nat.reduceAdd,Nat.reduceSub,Nat.reduceLeDiff,Nat.reduceLT,implies_true,famS])<;>exact fin8) (by (try simp only [evWB,Nat.reduceBEq,Nat.reduceAdd,Nat.reduceSub,Nat.reduceLeDiff,Nat.reduceLT,implies_true,famS])<;>exact fin8) ?_)
   all_goals (rintro _ _ _ ⟨rfl,rfl,rfl⟩;(repeat first | simp (disch:=try exact dis1) only [evD,Nat.reduceBEq,Nat.reduceAdd,Nat.reduceLeDiff,renE,renF,hks,bdH,za,zgf,zep ht,zep hb] | with_reducible intro _ | ((with_reducible apply And.intro);omega)))
   all_goals (repeat' with_reducible apply And.intro)
   all_goals try omega
   all_goals (refine zX [(0,3,0)] 1 _ (hsa) rfl rfl (by (try simp only [evWB,Nat.reduceBEq,Nat.reduceAdd,Nat.reduceSub,Nat.reduceLeDiff,Nat.reduceLT,implies_true,famS])<;>exact fin8) (by (try simp only [evWB,Nat.reduceBEq,Nat.reduceAdd,Nat.reduceSub,Nat.reduceLeDiff,Nat.reduceLT,implies_true,famS])<;>exact fin8) ?_)
   all_goals (rintro _ _ _ ⟨rfl,rfl,rfl⟩;(repeat first | simp (disch:=try exact dis1) only [evD,Nat.reduceBEq,Nat.reduceAdd,Nat.reduceLeDiff,renF,bdH,za] | with_reducible intro _ | ((with_reducible apply And.intro);omega)))
   all_goals exact ⟨i+1,by omega,by omega,(Ent.tab [(0,0,0),(1,1,0),(2,2,0),(3,3,0)] [] rfl (by (try simp only [evWB,Nat.reduceBEq,Nat.reduceAdd,Nat.reduceSub,Nat.reduceLeDiff,Nat.reduceLT,implies_true,bdH,za,hst,famS])<;>exact fin8) (by (try simp only [evWB,Nat.reduceBEq,Nat.reduceAdd,Nat.reduceSub,Nat.reduceLeDiff,Nat.reduceLT,implies_true,bdH,za,hst,famS])<;>exact fin8))⟩
  ·
   have e1:addT n S a t=a:=if_neg hin
   rw [e1] at hst
   by_cases h0:0≤t
   ·
    have h1:¬ t < bl.length:=by omega
    (repeat first | simp (disch:=try exact dis1) only [evD,Nat.reduceBEq,Nat.reduceAdd,Nat.reduceLeDiff,dT,dF,hgl,fldP,za,bdH] | with_reducible intro _ | ((with_reducible apply And.intro);omega))
    exact ⟨i+1,by omega,by omega,(Ent.tab [(0,0,0),(1,1,0),(2,2,0),(3,3,0)] [] rfl (by (try simp only [evWB,Nat.reduceBEq,Nat.reduceAdd,Nat.reduceSub,Nat.reduceLeDiff,Nat.reduceLT,implies_true,bdH,za,hst,famS])<;>exact fin8) (by (try simp only [evWB,Nat.reduceBEq,Nat.reduceAdd,Nat.reduceSub,Nat.reduceLeDiff,Nat.reduceLT,implies_true,bdH,za,hst,famS])<;>exact fin8))⟩
   ·
    (repeat first | simp (disch:=try exact dis1) only [evD,Nat.reduceBEq,Nat.reduceAdd,Nat.reduceLeDiff,dT,dF,hgl,fldP,za,bdH] | with_reducible intro _ | ((with_reducible apply And.intro);omega))
    exact ⟨i+1,by omega,by omega,(Ent.tab [(0,0,0),(1,1,0),(2,2,0),(3,3,0)] [] rfl (by (try simp only [evWB,Nat.reduceBEq,Nat.reduceAdd,Nat.reduceSub,Nat.reduceLeDiff,Nat.reduceLT,implies_true,bdH,za,hst,famS])<;>exact fin8) (by (try simp only [evWB,Nat.reduceBEq,Nat.reduceAdd,Nat.reduceSub,Nat.reduceLeDiff,Nat.reduceLT,implies_true,bdH,za,hst,famS])<;>exact fin8))⟩
 ·
  obtain rfl:i=ts.length:=by omega
  rw [List.take_length]
  (repeat first | simp (disch:=try exact dis1) only [evD,Nat.reduceBEq,Nat.reduceAdd,Nat.reduceLeDiff,dF] | with_reducible intro _ | ((with_reducible apply And.intro);omega))
  exact hfin
def zdG (exit:List Int) (sts:List St) (i:Nat) (a:MS):MS:=(sts.drop i).foldr (zdy exit) a
theorem zAK {exit:List Int} {sts:List St} {i:Nat} {a:MS} (h:i < sts.length):zdG exit sts i a=zdy exit sts[i] (zdG exit sts (i+1) a):=by
 unfold zdG
 rw [List.drop_eq_getElem_cons h]
 rfl
theorem bd_l2 {Q:QT} (n b:Nat) (S T:Nat→MS) (exit:List Int) (sts:List St) (ch:Bool) (a:MS)
  (hroom:∀ i (hi:i < sts.length),(zdG exit sts (i+1) a).ok∧zC sts[i].e≤100000∧(zdG exit sts (i+1) a).1+zC sts[i].e+exit.length≤1000000∧(zdG exit sts (i+1) a).2.length+zC sts[i].e+exit.length≤1000000)
  (hlen:sts.length≤1000000) (bl:List Bl) (ad:Int)
  (hfin:wpX Tryz.prog 0 zal Q [(1,za exit),(2,encP 2 [.int .u32 ad,encL 2 Bl.cells bl]),(6, .own 0 0 0 0 n),(7, .own 1 0 0 0 n),(9, .bool ch),(10, .int .i64 b),(11,encL 8 St.cells sts),(14, .mp 4 0),(15, .int .i64 (-1)),(100, .bool false)] (bdH n S T++[(4, .row 3 ((setM (zdG exit sts 0 a).1 (zdG exit sts 0 a).2).map cm) 0)]) 5)
  {K:Kn} {H:AH} {nx:Nat} (hent:Ent 0 K H nx [(1,za exit),(2,encP 2 [.int .u32 ad,encL 2 Bl.cells bl]),(6, .own 0 0 0 0 n),(7, .own 1 0 0 0 n),(9, .bool ch),(10, .int .i64 b),(11,encL 8 St.cells sts),(14, .mp 4 0),(15, .int .i64 ((sts.length:Int) - 1))] (bdH n S T++[(4, .row 3 ((setM a.1 a.2).map cm) 0)]) 5) :
  zhW Tryz.prog 0 zbt (zaZ 8 (seqQ Tryz.prog 0 zal Q)) K H nx:=by
 have hB:=hBig
 have hz:zdG exit sts sts.length a=a:=by unfold zdG;rw [List.drop_length];rfl
 refine zg (fun i:Nat=>([(1,za exit),(2,encP 2 [.int .u32 ad,encL 2 Bl.cells bl]),(6, .own 0 0 0 0 n),(7, .own 1 0 0 0 n),(9, .bool ch),(10, .int .i64 b),(11,encL 8 St.cells sts),(14, .mp 4 0),(15, .int .i64 ((i:Int) - 1))],bdH n S T++[(4, .row 3 ((setM (zdG exit sts i a).1 (zdG exit sts i a).2).map cm) 0)])) 5
  (fun i=>i≤sts.length) (fun i=>i) sts.length (Nat.le_refl _) (by rw [hz];exact hent) ?_
 rintro i hi wf
 unfold zbt
 rcases Nat.eq_zero_or_pos i with rfl | hp
 ·
  (repeat first | simp (disch:=try exact dis1) only [evD,Nat.reduceBEq,Nat.reduceAdd,Nat.reduceLeDiff,dF,Int.natCast_zero,bdH,List.cons_append,List.nil_append] | with_reducible intro _ | ((with_reducible apply And.intro);omega))
  exact hfin
 ·
  obtain ⟨i,rfl⟩:∃ k,i=k+1:=⟨i - 1,by omega⟩
  have hil:i < sts.length:=by omega
  have hgl:=zp (f:=St.cells) (d:=[]) hil
  obtain ⟨r1,r2,r3,r4⟩:=hroom i hil
  have hat:=zAK (exit:=exit) (a:=a) hil
  have ei:((i+1:Nat):Int) - 1=i:=by omega
  have hbk:=zht (zdG exit sts (i+1) a) sts[i] exit r1 r2 r3 r4
  rw [← hat] at hbk
  generalize zdG exit sts (i+1) a=c at r1 r3 r4 hbk ⊢
  (repeat first | simp (disch:=try exact dis1) only [evD,Nat.reduceBEq,Nat.reduceAdd,Nat.reduceLeDiff,ei,dT,hgl,bdH,List.cons_append,List.nil_append] | with_reducible intro _ | ((with_reducible apply And.intro);omega))
  refine zX [(0,4,0)] 1 _ (hbk) rfl rfl fin8 fin8 ?_
  rintro _ _ _ ⟨rfl,rfl,rfl⟩
  (repeat first | simp (disch:=try exact dis1) only [evD,Nat.reduceBEq,Nat.reduceAdd,Nat.reduceLeDiff,renM] | with_reducible intro _ | ((with_reducible apply And.intro);omega))
  exact ⟨i,by omega,by omega,(Ent.tab [(0,0,0),(1,1,0),(2,2,0),(3,3,0),(4,4,0)] [] rfl (by (try simp only [evWB,Nat.reduceBEq,Nat.reduceAdd,Nat.reduceSub,Nat.reduceLeDiff,Nat.reduceLT,implies_true,bdH,za,famS,List.cons_append,List.nil_append])<;>exact fin8) (by (try simp only [evWB,Nat.reduceBEq,Nat.reduceAdd,Nat.reduceSub,Nat.reduceLeDiff,Nat.reduceLT,implies_true,bdH,za,famS,List.cons_append,List.nil_append])<;>exact fin8))⟩
theorem bd_k3 {Q:QT} (n b:Nat) (hb:b < n) (hn:n≤1000000) (S T:Nat→MS) (exit:List Int) (sts:List St) (ch:Bool) (a:MS) (z:Int) (y:Bool)
  (ha:a.ok) (hS:(S b).ok) (h1:(S b).1+a.2.length≤1000000) (h2:(S b).2.length+a.2.length≤1000000) (bl:List Bl) (ad:Int)
  (hfin:∀ K H nx,Ent 0 K H nx [(1,za exit),(2,encP 2 [.int .u32 ad,encL 2 Bl.cells bl]),(6, .own 0 0 0 0 n),(7, .own 1 0 0 0 n),(9, .bool (ch||decide ((S b).2.length < (addL (S b) (zaI a)).2.length))),(10, .int .i64 ((b:Int) - 1))] (bdH n (updF S b (addL (S b) (zaI a))) T) 4→Q .normal K H nx) :
  wpX Tryz.prog 0 zal (zaZ 5 (seqQ Tryz.prog 0 zY Q)) [(1,za exit),(2,encP 2 [.int .u32 ad,encL 2 Bl.cells bl]),(6, .own 0 0 0 0 n),(7, .own 1 0 0 0 n),(9, .bool ch),(10, .int .i64 b),(11,encL 8 St.cells sts),(14, .mp 4 0),(15, .int .i64 z),(100, .bool y)] (bdH n S T++[(4, .row 3 ((setM a.1 a.2).map cm) 0)]) 5:=by
 have hB:=hBig
 unfold zal
 have hks:zcm (a.2.map (·.1))=zaI a:=rfl
 have hkl:(zaI a).length=a.2.length:=by unfold zaI MS.keys;rw [(z8 _).length_eq,List.length_map]
 have hsa:=zoi n b hb S (zaI a) hS (by rw [hkl];exact h1) (by rw [hkl];exact h2)
 (repeat first | simp (disch:=try exact dis1) only [evD,Nat.reduceBEq,Nat.reduceAdd,Nat.reduceLeDiff,bdH,za,zgf,zep hb,List.cons_append,List.nil_append] | with_reducible intro _ | ((with_reducible apply And.intro);omega))
 (repeat' with_reducible apply And.intro)
 all_goals try omega
 all_goals (refine zX [(0,4,0)] 1 _ (zmH a.1 a.2 ha) rfl rfl fin8 fin8 ?_)
 all_goals (rintro _ _ _ ⟨rfl,rfl,rfl⟩;(repeat first | simp (disch:=try exact dis1) only [evD,Nat.reduceBEq,Nat.reduceAdd,Nat.reduceLeDiff,renE,renM,hks,za,zgf,zep hb] | with_reducible intro _ | ((with_reducible apply And.intro);omega)))
 all_goals (repeat' with_reducible apply And.intro)
 all_goals try omega
 all_goals (refine zX [(0,2,0)] 1 _ (hsa) rfl rfl (by (try simp only [evWB,Nat.reduceBEq,Nat.reduceAdd,Nat.reduceSub,Nat.reduceLeDiff,Nat.reduceLT,implies_true,famS])<;>exact fin8) (by (try simp only [evWB,Nat.reduceBEq,Nat.reduceAdd,Nat.reduceSub,Nat.reduceLeDiff,Nat.reduceLT,implies_true,famS])<;>exact fin8) ?_)
 all_goals (rintro _ _ _ ⟨rfl,rfl,rfl⟩;(repeat first | simp (disch:=try exact dis1) only [evD,Nat.reduceBEq,Nat.reduceAdd,Nat.reduceLeDiff,renF,za] | with_reducible intro _ | ((with_reducible apply And.intro);omega)))
 all_goals (by_cases hg:(S b).2.length < (addL (S b) (zaI a)).2.length)
 all_goals first
  | ((repeat first | simp (disch:=try exact dis1) only [evD,Nat.reduceBEq,Nat.reduceAdd,Nat.reduceLeDiff,dT hg] | with_reducible intro _ | ((with_reducible apply And.intro);omega));unfold zY;(repeat first | simp (disch:=try exact dis1) only [evD,Nat.reduceBEq,Nat.reduceAdd,Nat.reduceLeDiff,zuC] | with_reducible intro _ | ((with_reducible apply And.intro);omega));refine hfin _ _ _ ?_;rw [decide_eq_true hg,Bool.or_true];exact (Ent.tab [(0,0,0),(1,1,0),(2,2,0),(3,3,0)] [] rfl (by (try simp only [evWB,Nat.reduceBEq,Nat.reduceAdd,Nat.reduceSub,Nat.reduceLeDiff,Nat.reduceLT,implies_true,bdH,za,famS])<;>exact fin8) (by (try simp only [evWB,Nat.reduceBEq,Nat.reduceAdd,Nat.reduceSub,Nat.reduceLeDiff,Nat.reduceLT,implies_true,bdH,za,famS])<;>exact fin8)))
  | ((repeat first | simp (disch:=try exact dis1) only [evD,Nat.reduceBEq,Nat.reduceAdd,Nat.reduceLeDiff,dF hg] | with_reducible intro _ | ((with_reducible apply And.intro);omega));unfold zY;(repeat first | simp (disch:=try exact dis1) only [evD,Nat.reduceBEq,Nat.reduceAdd,Nat.reduceLeDiff,zuC] | with_reducible intro _ | ((with_reducible apply And.intro);omega));refine hfin _ _ _ ?_;rw [decide_eq_false hg,Bool.or_false];exact (Ent.tab [(0,0,0),(1,1,0),(2,2,0),(3,3,0)] [] rfl (by (try simp only [evWB,Nat.reduceBEq,Nat.reduceAdd,Nat.reduceSub,Nat.reduceLeDiff,Nat.reduceLT,implies_true,bdH,za,famS])<;>exact fin8) (by (try simp only [evWB,Nat.reduceBEq,Nat.reduceAdd,Nat.reduceSub,Nat.reduceLeDiff,Nat.reduceLT,implies_true,bdH,za,famS])<;>exact fin8)))
def zg0 (exit:List Int) (sts:List St) (t:MS):MS:=zdG exit sts 0 (addL (0,[]) (zaI t))
theorem bd_k4 {Q:QT} (n b:Nat) (hb:b < n) (hn:n≤1000000) (S T:Nat→MS) (exit ts:List Int) (sts:List St) (ch:Bool)
  (hT:(T b).ok) (hroom:∀ i (hi:i < sts.length),(zdG exit sts (i+1) (addL (0,[]) (zaI (T b)))).ok∧zC sts[i].e≤100000∧(zdG exit sts (i+1) (addL (0,[]) (zaI (T b)))).1+zC sts[i].e+exit.length≤1000000∧(zdG exit sts (i+1) (addL (0,[]) (zaI (T b)))).2.length+zC sts[i].e+exit.length≤1000000)
  (hlen:sts.length≤1000000) (ha:(zg0 exit sts (T b)).ok) (hS:(S b).ok) (h1:(S b).1+(zg0 exit sts (T b)).2.length≤1000000) (h2:(S b).2.length+(zg0 exit sts (T b)).2.length≤1000000) (bl:List Bl) (ad:Int)
  (hfin:∀ K H nx,Ent 0 K H nx [(1,za exit),(2,encP 2 [.int .u32 ad,encL 2 Bl.cells bl]),(6, .own 0 0 0 0 n),(7, .own 1 0 0 0 n),(9, .bool (ch||decide ((S b).2.length < (addL (S b) (zaI (zg0 exit sts (T b)))).2.length))),(10, .int .i64 ((b:Int) - 1))] (bdH n (updF S b (addL (S b) (zaI (zg0 exit sts (T b))))) T) 4→Q .normal K H nx) :
  wpX Tryz.prog 0 zan (zaZ 5 (seqQ Tryz.prog 0 zY Q)) [(1,za exit),(2,encP 2 [.int .u32 ad,encL 2 Bl.cells bl]),(6, .own 0 0 0 0 n),(7, .own 1 0 0 0 n),(9, .bool ch),(10, .int .i64 b),(11,encL 8 St.cells sts),(62,za ts),(63, .int .i64 ts.length),(64, .int .i64 ts.length),(65, .bool false)] (bdH n S T) 4:=by
 have hB:=hBig
 unfold zan
 have hks:zcm ((T b).2.map (·.1))=zaI (T b):=rfl
 have hkl:(zaI (T b)).length=(T b).2.length:=by unfold zaI MS.keys;rw [(z8 _).length_eq,List.length_map]
 have htop:=hT.len
 have hsa:zad Tryz.prog zx [.mp 0 0,za (zaI (T b))] [(0, .row 3 [[.int .i64 0, .undef, .undef]] 0)] 1
   (fun v H nx=>v=.bool (decide (([]:List (Int × Int)).length < (addL (0,[]) (zaI (T b))).2.length))∧H=[(0, .row 3 ((setM (addL (0,[]) (zaI (T b))).1 (addL (0,[]) (zaI (T b))).2).map cm) 0)]∧nx=1) :=
  zgJ (0,[]) (zaI (T b)) znk (by rw [hkl];simp only;omega) (by rw [hkl];simp only [List.length_nil];omega)
 (repeat first | simp (disch:=try exact dis1) only [evD,Nat.reduceBEq,Nat.reduceAdd,Nat.reduceLeDiff,bdH,za,zgf,zep hb] | with_reducible intro _ | ((with_reducible apply And.intro);omega))
 refine zX [(0,3,0)] 1 _ (zck n b hb T hT) rfl rfl (by (try simp only [evWB,Nat.reduceBEq,Nat.reduceAdd,Nat.reduceSub,Nat.reduceLeDiff,Nat.reduceLT,implies_true,famS])<;>exact fin8) (by (try simp only [evWB,Nat.reduceBEq,Nat.reduceAdd,Nat.reduceSub,Nat.reduceLeDiff,Nat.reduceLT,implies_true,famS])<;>exact fin8) ?_
 rintro _ _ _ ⟨rfl,rfl,rfl⟩
 (repeat first | simp (disch:=try exact dis1) only [evD,Nat.reduceBEq,Nat.reduceAdd,Nat.reduceLeDiff,renE,renF,hks,za] | with_reducible intro _ | ((with_reducible apply And.intro);omega))
 refine zX [(0,4,0)] 1 _ (hsa) rfl rfl fin8 fin8 ?_
 rintro _ _ _ ⟨rfl,rfl,rfl⟩
 (repeat first | simp (disch:=try exact dis1) only [evD,Nat.reduceBEq,Nat.reduceAdd,Nat.reduceLeDiff,renM,za] | with_reducible intro _ | ((with_reducible apply And.intro);omega))
 refine bd_l2 n b S T exit sts ch (addL (0,[]) (zaI (T b))) hroom hlen bl ad (bd_k3 n b hb hn S T exit sts ch (zg0 exit sts (T b)) (-1) false ha hS h1 h2 bl ad hfin) ?_
 exact (Ent.tab [(0,0,0),(1,1,0),(2,2,0),(3,3,0),(4,4,0)] [] rfl (by (try simp only [evWB,Nat.reduceBEq,Nat.reduceAdd,Nat.reduceSub,Nat.reduceLeDiff,Nat.reduceLT,implies_true,bdH,za,famS,zw,List.cons_append,List.nil_append])<;>exact fin8) (by (try simp only [evWB,Nat.reduceBEq,Nat.reduceAdd,Nat.reduceSub,Nat.reduceLeDiff,Nat.reduceLT,implies_true,bdH,za,famS,zw,List.cons_append,List.nil_append])<;>exact fin8))
structure SetU (U:List Int) (s:MS):Prop where
 ok:s.ok
 clock:s.1=s.2.length
 sub:∀ x∈s.keys,x∈U
theorem SetU.len {U:List Int} {s:MS} (h:SetU U s):s.2.length≤U.length:=by
 have:=List.Nodup.length_le_of_subset h.ok.keys (show ∀ a∈s.2.map (·.1),a∈U from h.sub)
 rwa [List.length_map] at this
theorem SetU.none {U:List Int}:SetU U (0,[]):=⟨znk,rfl,fun x h=>by simp [MS.keys] at h⟩
theorem zv7 {s:MS} {v:Int} (h:s.1=s.2.length):(add1 s v).1=(add1 s v).2.length:=by
 unfold add1
 split
 · exact h
 · simp [h]
theorem zoY:∀ {l:List Int} {s:MS},s.1=s.2.length→(addL s l).1=(addL s l).2.length
 | [],_,h=>h
 |
  v::l,s,h=>by
  show (addL (add1 s v) l).1=_
  exact zoY (l:=l) (zv7 h)
theorem SetU.add {U:List Int} {s:MS} {l:List Int} (h:SetU U s) (hl:∀ x∈l,x∈U) (hU:U.length+l.length≤1000000):SetU U (addL s l):=by
 have h1:=h.len
 have h2:=h.clock
 refine ⟨zj6 h.ok (by omega) (by omega),zoY h.clock,fun x hx=>?_⟩
 rcases zd3.1 hx with h3 | h3
 · exact h.sub x h3
 · exact hl x h3
theorem ziz {s:MS} {x:Int}:x∈zaI s↔x∈s.keys:=(z8 _).mem_iff
theorem ziw {s:MS}:(zaI s).length=s.2.length:=by unfold zaI MS.keys;rw [(z8 _).length_eq,List.length_map]
def za7 (k:Nat):List St→Nat
 | []=>0
 | s::l=>zC s.e+k+za7 k l
theorem zo7 {k:Nat} {l:List St} {i:Nat} (h:i < l.length):za7 k (l.drop i)=zC l[i].e+k+za7 k (l.drop (i+1)):=by
 rw [List.drop_eq_getElem_cons h]
 rfl
theorem zpP {exit:List Int}:∀ {l:List St} {a:MS},a.ok→a.1+za7 exit.length l≤1000000→a.2.length+za7 exit.length l≤1000000 →
  (l.foldr (zdy exit) a).ok∧(l.foldr (zdy exit) a).1≤a.1+za7 exit.length l∧(l.foldr (zdy exit) a).2.length≤a.2.length+za7 exit.length l
 | [],a,h,_,_=>⟨h,by show a.1≤a.1+(0:Nat);omega,Nat.le_refl _⟩
 |
  s::l,a,h,h1,h2=>by
  have e:za7 exit.length (s::l)=zC s.e+exit.length+za7 exit.length l:=rfl
  rw [e] at h1 h2 ⊢
  obtain ⟨i1,i2,i3⟩:=zpP (exit:=exit) (l:=l) h (by omega) (by omega)
  obtain ⟨j1,j2,j3⟩:=zt7 (exit:=exit) (s:=s) i1 (by omega) (by omega)
  exact ⟨j1,by show (zdy exit s (l.foldr (zdy exit) a)).1≤_;omega,by show (zdy exit s (l.foldr (zdy exit) a)).2.length≤_;omega⟩
theorem zrU {exit:List Int} {a:MS} {m:List Int} (h:∀ x,x∈a.keys↔x∈m):∀ (l:List St) (x:Int),x∈(l.foldr (zdy exit) a).keys↔x∈zae exit l m
 | [],x=>h x
 | s::l,x=>znp (fun y=>zrU h l y) x
abbrev BS:=(Nat→MS) × (Nat→MS) × Bool
def outM (n:Nat) (sts:List St) (p:BS) (b:Nat):Nat→MS:=updF p.2.1 b ((zE sts).foldl (addT n p.1) (p.2.1 b))
def stM (exit:List Int) (bl:List Bl) (p:BS) (b:Nat):BS :=
 let sts:=(bl.map (·.stmts)).getD b []
 if sts.length=0 then p else
 let a:=zg0 exit sts (outM bl.length sts p b b)
 (updF p.1 b (addL (p.1 b) (zaI a)),outM bl.length sts p b,p.2.2||decide ((p.1 b).2.length < (addL (p.1 b) (zaI a)).2.length))
def zki (exit:List Int) (bl:List Bl):Nat→BS→BS
 | 0,p=>p
 | k+1,p=>zki exit bl k (stM exit bl p k)
def zdA:List St→Int
 | []=>0
 | s::l=>if s.check≠0 then s.check else zdA l
def zfQ:List Bl→Int
 | []=>0
 | b::l=>if zdA b.stmts≠0 then zdA b.stmts else zfQ l
def zo (l:List Bl):Nat:=(l.map fun b=>b.stmts.length).sum
theorem zhh {l:List Bl} {i:Nat} (h:i < l.length):zo (l.take (i+1))=zo (l.take i)+l[i].stmts.length:=by
 unfold zo
 rw [List.take_add_one,List.getElem?_eq_getElem h,List.map_append,List.sum_append]
 simp
def zuN (g:G):Int:=if (!g.blocks.isEmpty&&g.blocks.all fun b=>zcM b.stmts g.blocks.length)=true then zfQ g.blocks else 18
theorem zoa {l:List St} {i:Nat} (h:i < l.length):zdA (l.drop i)=if l[i].check≠0 then l[i].check else zdA (l.drop (i+1)):=by
 rw [List.drop_eq_getElem_cons h,zdA]
theorem zod {l:List Bl} {i:Nat} (h:i < l.length):zfQ (l.drop i)=if zdA l[i].stmts≠0 then zdA l[i].stmts else zfQ (l.drop (i+1)):=by
 rw [List.drop_eq_getElem_cons h,zfQ]
def zdz (g:G):Int:=if 256 < g.blocks.length∨1024 < zo g.blocks then 6 else zuN g
structure fewB (g:G):Prop where
 blocks:g.blocks.length≤300
 stmts:∀ b∈g.blocks,b.stmts.length≤1100
theorem zlw (g:G) (hf:fewB g):zz Tryz.prog zel [.agg g.cells] (·=.int .i64 (zdz g)):=by
 refine fn_x zlq rfl ?_
 unfold zgy
 have hB:=hBig
 obtain ⟨hb,hs⟩:=hf
 obtain ⟨ad,l⟩:=g
 simp only at hb hs
 simp only [G.cells,zdz]
 by_cases h256:256 < l.length
 ·
  rw [if_pos (.inl h256)]
  (repeat first | simp (disch:=try exact dis1) only [evD,Nat.reduceBEq,Nat.reduceAdd,Nat.reduceLeDiff,fldP,dT,zaF] | with_reducible intro _ | ((with_reducible apply And.intro);omega))
  exact ⟨_, .int _ _ _,rfl⟩
 (repeat first | simp (disch:=try exact dis1) only [evD,Nat.reduceBEq,Nat.reduceAdd,Nat.reduceLeDiff,fldP,dF] | with_reducible intro _ | ((with_reducible apply And.intro);omega))
 refine zg (fun s:Nat × Nat=>([(1,encP 2 [.int .u32 ad,encL 2 Bl.cells l]),(3, .int .i64 s.2),(4, .int .i64 s.1)],[])) 0 (fun s=>s.1≤l.length∧s.2=zo (l.take s.1)∧s.2≤1100 * s.1) (fun s=>l.length - s.1) (0,0) ⟨Nat.zero_le _,rfl,Nat.le_refl _⟩ (Ent.keep rfl fin5) ?_
 rintro ⟨i,n⟩ ⟨hi,hct,hn⟩ wf
 simp only at hi hn hct
 unfold zeG
 by_cases hl:i < l.length
 ·
  have hg:(l.map Bl.cells).getD i []=[.int .u32 l[i].addr,encL 8 St.cells l[i].stmts]:=zp hl
  have hsl:=hs l[i] (List.getElem_mem hl)
  (repeat first | simp (disch:=try exact dis1) only [evD,Nat.reduceBEq,Nat.reduceAdd,Nat.reduceLeDiff,fldP,dT,hg] | with_reducible intro _ | ((with_reducible apply And.intro);omega))
  exact ⟨(i+1,n+l[i].stmts.length),⟨by simp only;omega,by simp only;rw [zhh hl,hct],by simp only;omega⟩,by simp only;omega,Ent.keep rfl fin5⟩
 rw [List.take_of_length_le (by omega)] at hct
 (repeat first | simp (disch:=try exact dis1) only [evD,Nat.reduceBEq,Nat.reduceAdd,Nat.reduceLeDiff,fldP,dF] | with_reducible intro _ | ((with_reducible apply And.intro);omega))
 unfold zez
 by_cases h1024:1024 < n
 ·
  rw [if_pos (.inr (by omega))]
  (repeat first | simp (disch:=try exact dis1) only [evD,Nat.reduceBEq,Nat.reduceAdd,Nat.reduceLeDiff,fldP,dT,zaF] | with_reducible intro _ | ((with_reducible apply And.intro);omega))
  exact ⟨_, .int _ _ _,rfl⟩
 rw [if_neg (by omega)]
 simp only [zuN]
 by_cases h0:l.length=0
 ·
  obtain rfl:l=[]:=List.eq_nil_of_length_eq_zero h0
  (repeat first | simp (disch:=try exact dis1) only [evD,Nat.reduceBEq,Nat.reduceAdd,Nat.reduceLeDiff,fldP,dT,dF,List.length_nil,zaF] | with_reducible intro _ | ((with_reducible apply And.intro);omega))
  exact ⟨_, .int _ _ _,rfl⟩
 have he:l.isEmpty=false:=by cases l with | nil=>simp at h0 | cons a l=>rfl
 rw [he]
 (repeat first | simp (disch:=try exact dis1) only [evD,Nat.reduceBEq,Nat.reduceAdd,Nat.reduceLeDiff,fldP,dF] | with_reducible intro _ | ((with_reducible apply And.intro);omega))
 refine zg (fun i:Nat=>([(1,encP 2 [.int .u32 ad,encL 2 Bl.cells l]),(5, .int .i64 i)],[])) 0 (fun i=>i≤l.length∧((l.drop i).all fun b=>zcM b.stmts l.length)=(l.all fun b=>zcM b.stmts l.length)) (fun i=>l.length - i) 0 ⟨Nat.zero_le _,rfl⟩ (Ent.keep rfl fin5) ?_
 rintro i ⟨hi,hgo⟩ wf
 unfold zeB
 by_cases hl:i < l.length
 ·
  have hg:(l.map Bl.cells).getD i []=[.int .u32 l[i].addr,encL 8 St.cells l[i].stmts]:=zp hl
  rw [List.drop_eq_getElem_cons hl,List.all_cons] at hgo
  (repeat first | simp (disch:=try exact dis1) only [evD,Nat.reduceBEq,Nat.reduceAdd,Nat.reduceLeDiff,fldP,dT,hg] | with_reducible intro _ | ((with_reducible apply And.intro);omega))
  refine zbl (zk (zmJ l[i] l.length) rfl) ?_
  cases hc:zcM l[i].stmts l.length with
  |
   true =>
   rw [hc,Bool.true_and] at hgo
   (repeat first | simp (disch:=try exact dis1) only [evD,Nat.reduceBEq,Nat.reduceAdd,Nat.reduceLeDiff] | with_reducible intro _ | ((with_reducible apply And.intro);omega))
   exact ⟨i+1,⟨by omega,hgo⟩,by omega,Ent.keep rfl fin5⟩
  |
   false =>
   rw [hc,Bool.false_and] at hgo
   rw [← hgo]
   (repeat first | simp (disch:=try exact dis1) only [evD,Nat.reduceBEq,Nat.reduceAdd,Nat.reduceLeDiff,zaF] | with_reducible intro _ | ((with_reducible apply And.intro);omega))
   exact ⟨_, .int _ _ _,rfl⟩
 rw [List.drop_of_length_le (by omega)] at hgo
 replace hgo:(l.all fun b=>zcM b.stmts l.length)=true:=by rw [← hgo];rfl
 rw [hgo]
 (repeat first | simp (disch:=try exact dis1) only [evD,Nat.reduceBEq,Nat.reduceAdd,Nat.reduceLeDiff,fldP,dF] | with_reducible intro _ | ((with_reducible apply And.intro);omega))
 unfold zeD
 (repeat first | simp (disch:=try exact dis1) only [evD,Nat.reduceBEq,Nat.reduceAdd,Nat.reduceLeDiff] | with_reducible intro _ | ((with_reducible apply And.intro);omega))
 refine zg (fun i:Nat=>([(1,encP 2 [.int .u32 ad,encL 2 Bl.cells l]),(6, .int .i64 i)],[])) 0 (fun i=>i≤l.length∧zfQ (l.drop i)=zfQ l) (fun i=>l.length - i) 0 ⟨Nat.zero_le _,rfl⟩ (Ent.keep rfl fin5) ?_
 rintro i ⟨hi,hgo⟩ wf
 unfold zeP
 by_cases hl:i < l.length
 ·
  have hg:(l.map Bl.cells).getD i []=[.int .u32 l[i].addr,encL 8 St.cells l[i].stmts]:=zp hl
  rw [zod hl] at hgo
  (repeat first | simp (disch:=try exact dis1) only [evD,Nat.reduceBEq,Nat.reduceAdd,Nat.reduceLeDiff,fldP,dT,hg] | with_reducible intro _ | ((with_reducible apply And.intro);omega))
  generalize l[i].stmts=m at hg hgo
  generalize l[i].addr=ad' at hg
  refine zg (fun j:Nat=>([(1,encP 2 [.int .u32 ad,encL 2 Bl.cells l]),(6, .int .i64 i),(7, .int .i64 j)],[])) 0 (fun j=>j≤m.length∧zdA (m.drop j)=zdA m) (fun j=>m.length - j) 0 ⟨Nat.zero_le _,rfl⟩ (Ent.keep rfl fin5) ?_
  rintro j ⟨hj,hgo2⟩ wf2
  unfold zeK
  by_cases hm:j < m.length
  ·
   rw [zoa hm] at hgo2
   (repeat first | simp (disch:=try exact dis1) only [evD,Nat.reduceBEq,Nat.reduceAdd,Nat.reduceLeDiff,fldP,dT,hg,zp hm,St.len,St.eight] | with_reducible intro _ | ((with_reducible apply And.intro);omega))
   refine zi (zk (zmo m[j]) rfl) ?_
   by_cases hx:m[j].check=0
   ·
    rw [if_neg (by omega)] at hgo2
    (repeat first | simp (disch:=try exact dis1) only [evD,Nat.reduceBEq,Nat.reduceAdd,Nat.reduceLeDiff,dF] | with_reducible intro _ | ((with_reducible apply And.intro);omega))
    exact ⟨j+1,⟨by omega,hgo2⟩,by omega,Ent.keep rfl fin5⟩
   ·
    rw [if_pos hx] at hgo2
    rw [← hgo2,if_pos hx] at hgo
    rw [← hgo]
    (repeat first | simp (disch:=try exact dis1) only [evD,Nat.reduceBEq,Nat.reduceAdd,Nat.reduceLeDiff,dT,zaF] | with_reducible intro _ | ((with_reducible apply And.intro);omega))
    exact ⟨_, .int _ _ _,rfl⟩
  ·
   rw [List.drop_of_length_le (by omega),zdA] at hgo2
   rw [← hgo2,if_neg (by omega)] at hgo
   (repeat first | simp (disch:=try exact dis1) only [evD,Nat.reduceBEq,Nat.reduceAdd,Nat.reduceLeDiff,fldP,dF,hg] | with_reducible intro _ | ((with_reducible apply And.intro);omega))
   unfold zew
   (repeat first | simp (disch:=try exact dis1) only [evD,Nat.reduceBEq,Nat.reduceAdd,Nat.reduceLeDiff] | with_reducible intro _ | ((with_reducible apply And.intro);omega))
   exact ⟨i+1,⟨by omega,hgo⟩,by omega,Ent.keep rfl fin5⟩
 rw [List.drop_of_length_le (by omega),zfQ] at hgo
 rw [← hgo]
 (repeat first | simp (disch:=try exact dis1) only [evD,Nat.reduceBEq,Nat.reduceAdd,Nat.reduceLeDiff,fldP,dF] | with_reducible intro _ | ((with_reducible apply And.intro);omega))
 unfold zeN
 (repeat first | simp (disch:=try exact dis1) only [evD,Nat.reduceBEq,Nat.reduceAdd,Nat.reduceLeDiff,zaF] | with_reducible intro _ | ((with_reducible apply And.intro);omega))
 exact ⟨_, .int _ _ _,rfl⟩
structure PredT (fv:AV) (l:List St) (p:St→Bool):Prop where
 ex:∃ f caps,fv=.fn (.func f) caps∧zeL Tryz.prog f=true∧zK caps=true∧∀ s∈l,zz Tryz.prog f ([.agg s.cells]++caps) (·=.bool (p s))
theorem zsy {fv:AV} {l:List St} {p:St→Bool} (hp:PredT fv l p) {s:St} (hs:s∈l) {H:AH} {nx:Nat} {k:AV→AH→Nat→Prop} (hk:k (.bool (p s)) H nx):zng Tryz.prog fv [.agg s.cells] H nx k:=by
 obtain ⟨f,caps,rfl,hg,hf,hx⟩:=hp.ex
 rw [zkf]
 refine ⟨hg,zi (zk (hx s hs) ?_) hk⟩
 simp only [List.cons_append,List.nil_append,List.all_cons,Bool.and_eq_true]
 exact ⟨rfl,zhr hf⟩
theorem zuk {fv:AV} {l:List St} {p:St→Bool} (hp:PredT fv l p) {H H2:AH} {σ:Nat→Nat→Option (Nat × Nat × Nat)} {D:Nat→Nat→Prop} {t:Bool}:Vw H H2 σ D t fv fv:=by
 obtain ⟨f,caps,rfl,hg,hf,hx⟩:=hp.ex
 refine .fn _ _ _ _ rfl fun i a b h1 h2=>?_
 rw [h1] at h2
 cases h2
 exact zcp (za2 hf h1)
theorem zjg (l:List St) (fv:AV) (p:St→Bool) (hp:PredT fv l p):zz Tryz.prog zaq [encL 8 St.cells l,fv] (·=.int .i64 (idxI (l.findIdx? p))):=by
 refine fn_x zcw rfl ?_
 unfold za5
 have hB:=hBig
 (repeat first | simp (disch:=try exact dis1) only [evD,Nat.reduceBEq,Nat.reduceAdd,Nat.reduceLeDiff] | with_reducible intro _ | ((with_reducible apply And.intro);omega))
 refine zg (fun i:Nat=>([(0,encL 8 St.cells l),(1,fv),(7, .int .i64 l.length),(8, .int .i64 i)],[])) 0 (fun i=>i≤l.length∧∀ j (h:j < l.length),j < i→p l[j]=false) (fun i=>l.length - i) 0 ⟨Nat.zero_le _,fun j _ h=>by omega⟩ (Ent.keep rfl fin5) ?_
 intro i ⟨hi,hno⟩ wf
 unfold zaM
 (repeat first | simp (disch:=try exact dis1) only [evD,Nat.reduceBEq,Nat.reduceAdd,Nat.reduceLeDiff] | with_reducible intro _ | ((with_reducible apply And.intro);omega))
 (refine zaJ (fun h=>?_) (fun h=>?_))<;>(try simp only [dcd] at h)
 ·
  have hi':i < l.length:=by omega
  (repeat first | simp (disch:=try exact dis1) only [evD,Nat.reduceBEq,Nat.reduceAdd,Nat.reduceLeDiff,zp hi',St.len,St.eight] | with_reducible intro _ | ((with_reducible apply And.intro);omega))
  refine zsy hp (List.getElem_mem hi') ?_
  (repeat first | simp (disch:=try exact dis1) only [evD,Nat.reduceBEq,Nat.reduceAdd,Nat.reduceLeDiff] | with_reducible intro _ | ((with_reducible apply And.intro);omega))
  (refine zaJ (fun h2=>?_) (fun h2=>?_))<;>(try simp only [dcd] at h2)
  ·
   (repeat first | simp (disch:=try exact dis1) only [evD,Nat.reduceBEq,Nat.reduceAdd,Nat.reduceLeDiff,zaf] | with_reducible intro _ | ((with_reducible apply And.intro);omega))
   have e:l.findIdx? p=some i:=by
    rw [List.findIdx?_eq_some_iff_getElem]
    exact ⟨hi',h2,fun j hj=>by rw [hno j (by omega) hj];simp⟩
   rw [e]
   exact ⟨_, .int _ _ _,rfl⟩
  ·
   (repeat first | simp (disch:=try exact dis1) only [evD,Nat.reduceBEq,Nat.reduceAdd,Nat.reduceLeDiff] | with_reducible intro _ | ((with_reducible apply And.intro);omega))
   refine ⟨i+1,⟨by omega,fun j hj hji=>?_⟩,by omega,Ent.keep rfl fin5⟩
   by_cases hje:j=i
   · subst hje;simpa using h2
   · exact hno j hj (by omega)
 ·
  unfold zaP
  (repeat first | simp (disch:=try exact dis1) only [evD,Nat.reduceBEq,Nat.reduceAdd,Nat.reduceLeDiff,zaf] | with_reducible intro _ | ((with_reducible apply And.intro);omega))
  have e:l.findIdx? p=none:=by
   rw [List.findIdx?_eq_none_iff]
   intro x hx
   obtain ⟨j,hj,rfl⟩:=List.mem_iff_getElem.1 hx
   exact hno j hj (by omega)
  rw [e]
  exact ⟨_, .int _ _ _,rfl⟩
theorem zzS {l:List St} {p:St→Bool}:decide (idxI (l.findIdx? p) ≥ 0)=l.any p:=by
 cases h:l.findIdx? p with
 |
  none =>
  have:=List.findIdx?_eq_none_iff.1 h
  rw [decide_eq_false (by simp [idxI])]
  symm
  rw [List.any_eq_false]
  intro x hx
  rw [this x hx];simp
 |
  some i =>
  obtain ⟨h1,h2,_⟩:=List.findIdx?_eq_some_iff_getElem.1 h
  rw [decide_eq_true (by simp [idxI])]
  exact (zsq h1 h2).symm
theorem zhp (l:List St) (fv:AV) (p:St→Bool) (hp:PredT fv l p):zz Tryz.prog zab [encL 8 St.cells l,fv] (·=.bool (l.any p)):=by
 refine fn_x zb4 rfl ?_
 unfold zaN
 (repeat first | simp (disch:=try exact dis1) only [evD,Nat.reduceBEq,Nat.reduceAdd,Nat.reduceLeDiff] | with_reducible intro _ | ((with_reducible apply And.intro);omega))
 refine zi (za1 (D:=noR) (zjg l fv p hp) (.cons (zT rfl) (.cons (zuk hp) .nil)) (.inl rfl)) ?_
 (repeat first | simp (disch:=try exact dis1) only [evD,Nat.reduceBEq,Nat.reduceAdd,Nat.reduceLeDiff,zaQ] | with_reducible intro _ | ((with_reducible apply And.intro);omega))
 refine ⟨_, .bool _ _,?_⟩
 rw [← zzS]
structure PredI (fv:AV) (l:List Int) (p:Int→Bool):Prop where
 ex:∃ f caps,fv=.fn (.func f) caps∧zeL Tryz.prog f=true∧zK caps=true∧∀ s∈l,zz Tryz.prog f ([.int .i64 s]++caps) (·=.bool (p s))
theorem zt5 {fv:AV} {l:List Int} {p:Int→Bool} (hp:PredI fv l p) {s:Int} (hs:s∈l) {H:AH} {nx:Nat} {k:AV→AH→Nat→Prop} (hk:k (.bool (p s)) H nx):zng Tryz.prog fv [.int .i64 s] H nx k:=by
 obtain ⟨f,caps,rfl,hg,hf,hx⟩:=hp.ex
 rw [zkf]
 refine ⟨hg,zi (zk (hx s hs) ?_) hk⟩
 simp only [List.cons_append,List.nil_append,List.all_cons,Bool.and_eq_true]
 exact ⟨rfl,zhr hf⟩
theorem zuj {fv:AV} {l:List Int} {p:Int→Bool} (hp:PredI fv l p) {H H2:AH} {σ:Nat→Nat→Option (Nat × Nat × Nat)} {D:Nat→Nat→Prop} {t:Bool}:Vw H H2 σ D t fv fv:=by
 obtain ⟨f,caps,rfl,hg,hf,hx⟩:=hp.ex
 refine .fn _ _ _ _ rfl fun i a b h1 h2=>?_
 rw [h1] at h2
 cases h2
 exact zcp (za2 hf h1)
theorem zje (l:List Int) (fv:AV) (p:Int→Bool) (hp:PredI fv l p):zz Tryz.prog zbk [za l,fv] (·=.int .i64 (idxI (l.findIdx? p))):=by
 refine fn_x ze5 rfl ?_
 unfold zb8
 have hB:=hBig
 (repeat first | simp (disch:=try exact dis1) only [evD,Nat.reduceBEq,Nat.reduceAdd,Nat.reduceLeDiff,za] | with_reducible intro _ | ((with_reducible apply And.intro);omega))
 refine zg (fun i:Nat=>([(0,za l),(1,fv),(7, .int .i64 l.length),(8, .int .i64 i)],[])) 0 (fun i=>i≤l.length∧∀ j (h:j < l.length),j < i→p l[j]=false) (fun i=>l.length - i) 0 ⟨Nat.zero_le _,fun j _ h=>by omega⟩ (Ent.keep rfl fin5) ?_
 intro i ⟨hi,hno⟩ wf
 unfold zbK
 (repeat first | simp (disch:=try exact dis1) only [evD,Nat.reduceBEq,Nat.reduceAdd,Nat.reduceLeDiff] | with_reducible intro _ | ((with_reducible apply And.intro);omega))
 (refine zaJ (fun h=>?_) (fun h=>?_))<;>(try simp only [dcd] at h)
 ·
  have hi':i < l.length:=by omega
  (repeat first | simp (disch:=try exact dis1) only [evD,Nat.reduceBEq,Nat.reduceAdd,Nat.reduceLeDiff,za,zp hi'] | with_reducible intro _ | ((with_reducible apply And.intro);omega))
  refine zt5 hp (List.getElem_mem hi') ?_
  (repeat first | simp (disch:=try exact dis1) only [evD,Nat.reduceBEq,Nat.reduceAdd,Nat.reduceLeDiff] | with_reducible intro _ | ((with_reducible apply And.intro);omega))
  (refine zaJ (fun h2=>?_) (fun h2=>?_))<;>(try simp only [dcd] at h2)
  ·
   (repeat first | simp (disch:=try exact dis1) only [evD,Nat.reduceBEq,Nat.reduceAdd,Nat.reduceLeDiff,zbc] | with_reducible intro _ | ((with_reducible apply And.intro);omega))
   have e:l.findIdx? p=some i:=by
    rw [List.findIdx?_eq_some_iff_getElem]
    exact ⟨hi',h2,fun j hj=>by rw [hno j (by omega) hj];simp⟩
   rw [e]
   exact ⟨_, .int _ _ _,rfl⟩
  ·
   (repeat first | simp (disch:=try exact dis1) only [evD,Nat.reduceBEq,Nat.reduceAdd,Nat.reduceLeDiff] | with_reducible intro _ | ((with_reducible apply And.intro);omega))
   refine ⟨i+1,⟨by omega,fun j hj hji=>?_⟩,by omega,Ent.keep rfl fin5⟩
   by_cases hje:j=i
   · subst hje;simpa using h2
   · exact hno j hj (by omega)
 ·
  unfold zbJ
  (repeat first | simp (disch:=try exact dis1) only [evD,Nat.reduceBEq,Nat.reduceAdd,Nat.reduceLeDiff,zbc] | with_reducible intro _ | ((with_reducible apply And.intro);omega))
  have e:l.findIdx? p=none:=by
   rw [List.findIdx?_eq_none_iff]
   intro x hx
   obtain ⟨j,hj,rfl⟩:=List.mem_iff_getElem.1 hx
   exact hno j hj (by omega)
  rw [e]
  exact ⟨_, .int _ _ _,rfl⟩
theorem zzX {l:List Int} {p:Int→Bool}:decide (idxI (l.findIdx? p) ≥ 0)=l.any p:=by
 cases h:l.findIdx? p with
 |
  none =>
  have:=List.findIdx?_eq_none_iff.1 h
  rw [decide_eq_false (by simp [idxI])]
  symm
  rw [List.any_eq_false]
  intro x hx
  rw [this x hx];simp
 |
  some i =>
  obtain ⟨h1,h2,_⟩:=List.findIdx?_eq_some_iff_getElem.1 h
  rw [decide_eq_true (by simp [idxI])]
  exact (zsq h1 h2).symm
theorem zho (l:List Int) (fv:AV) (p:Int→Bool) (hp:PredI fv l p):zz Tryz.prog za3 [za l,fv] (·=.bool (l.any p)):=by
 refine fn_x zeb rfl ?_
 unfold zbG
 (repeat first | simp (disch:=try exact dis1) only [evD,Nat.reduceBEq,Nat.reduceAdd,Nat.reduceLeDiff] | with_reducible intro _ | ((with_reducible apply And.intro);omega))
 refine zi (za1 (D:=noR) (zje l fv p hp) (.cons (zT rfl) (.cons (zuj hp) .nil)) (.inl rfl)) ?_
 (repeat first | simp (disch:=try exact dis1) only [evD,Nat.reduceBEq,Nat.reduceAdd,Nat.reduceLeDiff,zbH] | with_reducible intro _ | ((with_reducible apply And.intro);omega))
 refine ⟨_, .bool _ _,?_⟩
 rw [← zzX]
theorem zrx (l:List Int) (hl:l.length≤100000000):zad Tryz.prog zbg [za l] [] 0 (fun v H nx=>v=.own 0 0 0 0 l.length∧H=[(0, .row 1 (l.map cI) 0)]∧nx=1):=by
 refine zbZ (fn_x zg9 rfl ?_)
 unfold zdd za
 have hB:=hBig
 have hel:∀ H,zdx 1 (encL 1 (fun n=>[.int .i64 n]) l) H=some (l.map cI):=fun H=>zvl
 (repeat first | simp (disch:=try exact dis1) only [evD,Nat.reduceBEq,Nat.reduceAdd,Nat.reduceLeDiff,zxO] | with_reducible intro _ | ((with_reducible apply And.intro);omega))
 cases h0:(l.length == 0) with
 |
  true =>
  have e:l=[]:=List.eq_nil_of_length_eq_zero (by simpa using h0)
  subst e
  (repeat first | simp (disch:=try exact dis1) only [evD,Nat.reduceBEq,Nat.reduceAdd,Nat.reduceLeDiff] | with_reducible intro _ | ((with_reducible apply And.intro);omega))
  rename_i b
  cases b
  ·
   (repeat first | simp (disch:=try exact dis1) only [evD,Nat.reduceBEq,Nat.reduceAdd,Nat.reduceLeDiff,hel,za6] | with_reducible intro _ | ((with_reducible apply And.intro);omega))
   exact ⟨.own 0 0 0 0 0,[(0, .row 1 [] 0)],1,(Ent.tab [(0,1,1)] [] rfl (by (try simp only [evWB,Nat.reduceBEq,Nat.reduceAdd,Nat.reduceSub,Nat.reduceLeDiff,Nat.reduceLT,implies_true])<;>exact fin2) (by (try simp only [evWB,Nat.reduceBEq,Nat.reduceAdd,Nat.reduceSub,Nat.reduceLeDiff,Nat.reduceLT,implies_true])<;>exact fin2)),rfl,rfl,rfl⟩
  ·
   (repeat first | simp (disch:=try exact dis1) only [evD,Nat.reduceBEq,Nat.reduceAdd,Nat.reduceLeDiff,za6] | with_reducible intro _ | ((with_reducible apply And.intro);omega))
   exact ⟨.own 0 0 0 0 0,[(0, .row 1 [] 0)],1,(Ent.tab [(0,1,0)] [] rfl (by (try simp only [evWB,Nat.reduceBEq,Nat.reduceAdd,Nat.reduceSub,Nat.reduceLeDiff,Nat.reduceLT,implies_true])<;>exact fin2) (by (try simp only [evWB,Nat.reduceBEq,Nat.reduceAdd,Nat.reduceSub,Nat.reduceLeDiff,Nat.reduceLT,implies_true])<;>exact fin2)),rfl,rfl,rfl⟩
 |
  false =>
  (repeat first | simp (disch:=try exact dis1) only [evD,Nat.reduceBEq,Nat.reduceAdd,Nat.reduceLeDiff,hel,za6] | with_reducible intro _ | ((with_reducible apply And.intro);omega))
  exact ⟨.own 0 0 0 0 l.length,[(0, .row 1 (l.map cI) 0)],1,(Ent.tab [(0,1,1)] [] rfl (by (try simp only [evWB,Nat.reduceBEq,Nat.reduceAdd,Nat.reduceSub,Nat.reduceLeDiff,Nat.reduceLT,implies_true])<;>exact fin2) (by (try simp only [evWB,Nat.reduceBEq,Nat.reduceAdd,Nat.reduceSub,Nat.reduceLeDiff,Nat.reduceLT,implies_true])<;>exact fin2)),rfl,rfl,rfl⟩
theorem renI {ρ:Nat→Nat} {l:List Int} {g:Nat}:AObj.ren ρ (.row 1 (l.map cI) g)=.row 1 (l.map cI) g:=by
 simp only [AObj.ren]
 rw [zg2 (zh fun _=>rfl)]
theorem zhv (b:Bl) (hc:∀ s∈b.stmts,s.cases.length≤100000000):zz Tryz.prog zdr [.agg b.cells] (·=za (zE b.stmts)):=by
 refine fn_x zmi rfl ?_
 unfold zhx
 have hB:=hBig
 obtain ⟨ad,l⟩:=b
 simp only at hc
 simp only [Bl.cells]
 by_cases h0:l.length=0
 ·
  obtain rfl:l=[]:=List.eq_nil_of_length_eq_zero h0
  (repeat first | simp (disch:=try exact dis1) only [evD,Nat.reduceBEq,Nat.reduceAdd,Nat.reduceLeDiff,fldP,dT,List.length_nil,zbm] | with_reducible intro _ | ((with_reducible apply And.intro);omega))
  exact ⟨_,zai (l:=[]) trivial rfl (by simp only [List.length_nil];omega),rfl⟩
 have hlast:l.length - 1 < l.length:=by omega
 have hidx:(((l.length:Nat):Int) - 1).toNat=l.length - 1:=by omega
 have hcs:=hc _ (List.getElem_mem hlast)
 have hg:=zp (f:=St.cells) (d:=[]) hlast
 rw [zfF hlast]
 generalize l[l.length - 1]=s at hg hcs
 obtain ⟨op,var,width,next,els,tgt,e,cs⟩:=s
 simp only [St.cells] at hg hcs
 unfold zf9
 simp only
 (repeat first | simp (disch:=try exact dis1) only [evD,Nat.reduceBEq,Nat.reduceAdd,Nat.reduceLeDiff,fldP,dT,dF,hidx,hg] | with_reducible intro _ | ((with_reducible apply And.intro);omega))
 by_cases h6:op=6
 ·
  rw [if_pos h6]
  (repeat first | simp (disch:=try exact dis1) only [evD,Nat.reduceBEq,Nat.reduceAdd,Nat.reduceLeDiff,dT,dF,fldP,za,St.cells,zbm] | with_reducible intro _ | ((with_reducible apply And.intro);omega))
  exact ⟨_,zai (l:=[next]) trivial rfl (by simp only [List.length_singleton];omega),rfl⟩
 rw [if_neg h6]
 by_cases h7:op=7
 ·
  rw [if_pos h7]
  (repeat first | simp (disch:=try exact dis1) only [evD,Nat.reduceBEq,Nat.reduceAdd,Nat.reduceLeDiff,dT,dF,fldP,za,St.cells,zbm] | with_reducible intro _ | ((with_reducible apply And.intro);omega))
  exact ⟨_,zai (l:=[next,els]) trivial rfl (by simp only [List.length_cons,List.length_nil];omega),rfl⟩
 rw [if_neg h7]
 by_cases h8:op=8
 ·
  rw [if_pos h8]
  (repeat first | simp (disch:=try exact dis1) only [evD,Nat.reduceBEq,Nat.reduceAdd,Nat.reduceLeDiff,dT,dF,fldP,St.cells] | with_reducible intro _ | ((with_reducible apply And.intro);omega))
  refine zX [] 0 _ (zrx cs hcs) rfl rfl (by (try simp only [evWB,Nat.reduceBEq,Nat.reduceAdd,Nat.reduceSub,Nat.reduceLeDiff,Nat.reduceLT,implies_true])<;>exact fin1) (by (try simp only [evWB,Nat.reduceBEq,Nat.reduceAdd,Nat.reduceSub,Nat.reduceLeDiff,Nat.reduceLT,implies_true])<;>exact fin1) ?_
  rintro _ _ _ ⟨rfl,rfl,rfl⟩
  (repeat first | simp (disch:=try exact dis1) only [evD,Nat.reduceBEq,Nat.reduceAdd,Nat.reduceLeDiff,renI,zbm] | with_reducible intro _ | ((with_reducible apply And.intro);omega))
  exact ⟨_,zai (l:=cs) trivial rfl (by omega),rfl⟩
 rw [if_neg h8]
 (repeat first | simp (disch:=try exact dis1) only [evD,Nat.reduceBEq,Nat.reduceAdd,Nat.reduceLeDiff,dT,dF,fldP,za,St.cells,zbm] | with_reducible intro _ | ((with_reducible apply And.intro);omega))
 exact ⟨_,zai (l:=[]) trivial rfl (by simp only [List.length_nil];omega),rfl⟩
theorem bd_l6 {Q:QT} (exit:List Int) (bl:List Bl) (ad:Int) (U:List Int) (R p0:BS) (hn:bl.length≤1000000)
  (hstep:∀ (p:BS) k,k < bl.length→(∀ i,SetU U (p.1 i))→(∀ i,SetU U (p.2.1 i))→(∀ i,SetU U ((stM exit bl p k).1 i))∧(∀ i,SetU U ((stM exit bl p k).2.1 i)))
  (hcs:∀ b∈bl,(∀ s∈b.stmts,s.cases.length≤100000000)∧b.stmts.length≤1000000∧(zE b.stmts).length≤1000000)
  (hroom:∀ (p:BS) k (hk:k < bl.length),(∀ i,SetU U (p.1 i))→(∀ i,SetU U (p.2.1 i)) →
   (∀ i,i < (zE bl[k].stmts).length→(((zE bl[k].stmts).take i).foldl (addT bl.length p.1) (p.2.1 k)).ok∧∀ j,j < bl.length→(((zE bl[k].stmts).take i).foldl (addT bl.length p.1) (p.2.1 k)).1+(p.1 j).2.length≤1000000∧(((zE bl[k].stmts).take i).foldl (addT bl.length p.1) (p.2.1 k)).2.length+(p.1 j).2.length≤1000000) ∧
   SetU U (outM bl.length bl[k].stmts p k k) ∧
   ∀ t,SetU U t→(∀ i (hi:i < bl[k].stmts.length),(zdG exit bl[k].stmts (i+1) (addL (0,[]) (zaI t))).ok∧zC bl[k].stmts[i].e≤100000∧(zdG exit bl[k].stmts (i+1) (addL (0,[]) (zaI t))).1+zC bl[k].stmts[i].e+exit.length≤1000000∧(zdG exit bl[k].stmts (i+1) (addL (0,[]) (zaI t))).2.length+zC bl[k].stmts[i].e+exit.length≤1000000) ∧
    (zg0 exit bl[k].stmts t).ok∧(p.1 k).1+(zg0 exit bl[k].stmts t).2.length≤1000000∧(p.1 k).2.length+(zg0 exit bl[k].stmts t).2.length≤1000000)
  (h0:zki exit bl bl.length p0=R) (h1:∀ i,SetU U (p0.1 i)) (h2:∀ i,SetU U (p0.2.1 i))
  (hfin:∀ K H nx,Ent 0 K H nx [(1,za exit),(2,encP 2 [.int .u32 ad,encL 2 Bl.cells bl]),(6, .own 0 0 0 0 bl.length),(7, .own 1 0 0 0 bl.length),(9, .bool R.2.2)] (bdH bl.length R.1 R.2.1) 4→Q .normal K H nx)
  {K:Kn} {H:AH} {nx:Nat} (hent:Ent 0 K H nx [(1,za exit),(2,encP 2 [.int .u32 ad,encL 2 Bl.cells bl]),(6, .own 0 0 0 0 bl.length),(7, .own 1 0 0 0 bl.length),(9, .bool p0.2.2),(10, .int .i64 ((bl.length:Int) - 1))] (bdH bl.length p0.1 p0.2.1) 4) :
  zhW Tryz.prog 0 zbx (zaZ 4 Q) K H nx:=by
 have hB:=hBig
 refine zg (fun a:Nat × BS=>([(1,za exit),(2,encP 2 [.int .u32 ad,encL 2 Bl.cells bl]),(6, .own 0 0 0 0 bl.length),(7, .own 1 0 0 0 bl.length),(9, .bool a.2.2.2),(10, .int .i64 ((a.1:Int) - 1))],bdH bl.length a.2.1 a.2.2.1)) 4
  (fun a=>a.1≤bl.length∧zki exit bl a.1 a.2=R∧(∀ i,SetU U (a.2.1 i))∧∀ i,SetU U (a.2.2.1 i)) (fun a=>a.1) (bl.length,p0) ⟨Nat.le_refl _,h0,h1,h2⟩ hent ?_
 rintro ⟨k,p⟩ ⟨hk,hR,hS,hT⟩ wf
 simp only at hk hR hS hT
 unfold zbx
 rcases Nat.eq_zero_or_pos k with rfl | hp
 ·
  have hR:p=R:=hR
  subst hR
  (repeat first | simp (disch:=try exact dis1) only [evD,Nat.reduceBEq,Nat.reduceAdd,Nat.reduceLeDiff,dF,Int.natCast_zero,bdH] | with_reducible intro _ | ((with_reducible apply And.intro);omega))
  refine hfin _ _ _ ?_
  exact (Ent.tab [(0,0,0),(1,1,0),(2,2,0),(3,3,0)] [] rfl (by (try simp only [evWB,Nat.reduceBEq,Nat.reduceAdd,Nat.reduceSub,Nat.reduceLeDiff,Nat.reduceLT,implies_true,bdH,za,famS])<;>exact fin8) (by (try simp only [evWB,Nat.reduceBEq,Nat.reduceAdd,Nat.reduceSub,Nat.reduceLeDiff,Nat.reduceLT,implies_true,bdH,za,famS])<;>exact fin8))
 ·
  obtain ⟨k,rfl⟩:∃ j,k=j+1:=⟨k - 1,by omega⟩
  have hkl:k < bl.length:=by omega
  have hgl:=zp (f:=Bl.cells) (d:=[]) hkl
  have ei:((k+1:Nat):Int) - 1=k:=by omega
  have hbk:(bl.map (·.stmts)).getD k []=bl[k].stmts:=zp hkl
  have hR':zki exit bl k (stM exit bl p k)=R:=hR
  obtain ⟨s1,s2⟩:=hstep p k hkl hS hT
  obtain ⟨c1,c2,c3⟩:=hcs _ (List.getElem_mem hkl)
  obtain ⟨r1,r2,r3⟩:=hroom p k hkl hS hT
  obtain ⟨q1,q2,q3,q4⟩:=r3 _ r2
  generalize bl[k]=B at hgl hbk c1 c2 c3 r1 r2 q1 q2 q3 q4
  obtain ⟨ad2,sts⟩:=B
  simp only at hbk c1 c2 c3 r1 r2 q1 q2 q3 q4
  by_cases hz:sts.length=0
  ·
   have e1:stM exit bl p k=p:=by unfold stM;rw [hbk];exact if_pos hz
   rw [e1] at hR'
   (repeat first | simp (disch:=try exact dis1) only [evD,Nat.reduceBEq,Nat.reduceAdd,Nat.reduceLeDiff,ei,dT,hgl,fldP,bdH,Bl.cells] | with_reducible intro _ | ((with_reducible apply And.intro);omega))
   unfold zY
   (repeat first | simp (disch:=try exact dis1) only [evD,Nat.reduceBEq,Nat.reduceAdd,Nat.reduceLeDiff] | with_reducible intro _ | ((with_reducible apply And.intro);omega))
   exact ⟨(k,p),⟨by simp only;omega,hR',hS,hT⟩,by simp only;omega,(Ent.tab [(0,0,0),(1,1,0),(2,2,0),(3,3,0)] [] rfl (by (try simp only [evWB,Nat.reduceBEq,Nat.reduceAdd,Nat.reduceSub,Nat.reduceLeDiff,Nat.reduceLT,implies_true,bdH,za,famS])<;>exact fin8) (by (try simp only [evWB,Nat.reduceBEq,Nat.reduceAdd,Nat.reduceSub,Nat.reduceLeDiff,Nat.reduceLT,implies_true,bdH,za,famS])<;>exact fin8))⟩
  ·
   (repeat first | simp (disch:=try exact dis1) only [evD,Nat.reduceBEq,Nat.reduceAdd,Nat.reduceLeDiff,ei,dT,dF,hgl,fldP,bdH,Bl.cells] | with_reducible intro _ | ((with_reducible apply And.intro);omega))
   refine zi (zk (zhv ⟨ad2,sts⟩ c1) rfl) ?_
   (repeat first | simp (disch:=try exact dis1) only [evD,Nat.reduceBEq,Nat.reduceAdd,Nat.reduceLeDiff,za] | with_reducible intro _ | ((with_reducible apply And.intro);omega))
   have e1:stM exit bl p k=(updF p.1 k (addL (p.1 k) (zaI (zg0 exit sts (outM bl.length sts p k k)))),outM bl.length sts p k,p.2.2||decide ((p.1 k).2.length < (addL (p.1 k) (zaI (zg0 exit sts (outM bl.length sts p k k)))).2.length)):=by unfold stM;rw [hbk];exact if_neg hz
   rw [e1] at hR' s1 s2
   refine bd_l1 bl.length k hkl p.1 p.2.1 (zE sts) exit sts p.2.2 (fun i _=>(hS i).ok) (hT k).ok r1 c3 hn bl ad rfl (bd_k4 bl.length k hkl hn p.1 (outM bl.length sts p k) exit (zE sts) sts p.2.2 r2.ok q1 c2 q2 (hS k).ok q3 q4 bl ad ?_) ?_
   ·
    intro K2 H2 nx2 he
    exact ⟨(k,_),⟨by simp only;omega,hR',s1,s2⟩,by simp only;omega,he⟩
   · exact (Ent.tab [(0,0,0),(1,1,0),(2,2,0),(3,3,0)] [] rfl (by (try simp only [evWB,Nat.reduceBEq,Nat.reduceAdd,Nat.reduceSub,Nat.reduceLeDiff,Nat.reduceLT,implies_true,bdH,za,famS])<;>exact fin8) (by (try simp only [evWB,Nat.reduceBEq,Nat.reduceAdd,Nat.reduceSub,Nat.reduceLeDiff,Nat.reduceLT,implies_true,bdH,za,famS])<;>exact fin8))
theorem SetU.keysIn {U:List Int} {s:MS} (h:SetU U s):∀ x∈zaI s,x∈U:=fun x hx=>h.sub x (ziz.1 hx)
theorem zsG {U:List Int} {n:Nat} {S:Nat→MS} (hS:∀ i,SetU U (S i)) (hU:2 * U.length≤1000000):∀ {ts:List Int} {a:MS},SetU U a→SetU U (ts.foldl (addT n S) a)
 | [],_,h=>h
 |
  t::ts,a,h=>by
  rw [List.foldl_cons]
  refine zsG hS hU ?_
  unfold addT
  split
  ·
   have hl:=(hS t.toNat).len
   exact h.add (hS t.toNat).keysIn (by rw [ziw];omega)
  · exact h
theorem zA1 {U:List Int} {n:Nat} {sts:List St} {p:BS} {b:Nat} (hS:∀ i,SetU U (p.1 i)) (hT:∀ i,SetU U (p.2.1 i)) (hU:2 * U.length≤1000000) (i:Nat):SetU U (outM n sts p b i):=by
 unfold outM updF
 split
 · exact zsG hS hU (hT b)
 · exact hT i
theorem zsC {U exit:List Int} (he:∀ x∈exit,x∈U) {a:MS} (ha:∀ x∈a.keys,x∈U):∀ {l:List St},(∀ s∈l,∀ x∈zcF s,x∈U)→∀ x∈(l.foldr (zdy exit) a).keys,x∈U
 | [],_,x,hx=>ha x hx
 |
  s::l,hu,x,hx=>by
  have ih:=zsC he ha (l:=l) (fun s hs=>hu s (List.mem_cons_of_mem _ hs))
  have:=(znp (exit:=exit) (s:=s) (a:=l.foldr (zdy exit) a) (l:=(l.foldr (zdy exit) a).keys) (fun _=>Iff.rfl) x).1 hx
  rcases zcY.1 this with ⟨h1,_⟩ | h1 | ⟨_,h1⟩
  · exact ih x h1
  · exact hu s (by simp) x h1
  · exact he x h1
theorem zmB {k:Nat}:∀ {l:List St} {i:Nat},za7 k (l.drop i)≤za7 k l
 | [],i=>by simp
 | s::l,0=>Nat.le_refl _
 |
  s::l,i+1=>by
  have:=zmB (k:=k) (l:=l) (i:=i)
  show za7 k (l.drop i)≤zC s.e+k+za7 k l
  omega
theorem zpt {U exit:List Int} {sts:List St} {t:MS} (ht:SetU U t) (he:∀ x∈exit,x∈U) (hu:∀ s∈sts,∀ x∈zcF s,x∈U) (hsz:∀ s∈sts,zC s.e≤100000) (hU:2 * U.length+za7 exit.length sts≤1000000) :
  (∀ i (hi:i < sts.length),(zdG exit sts (i+1) (addL (0,[]) (zaI t))).ok∧zC sts[i].e≤100000∧(zdG exit sts (i+1) (addL (0,[]) (zaI t))).1+zC sts[i].e+exit.length≤1000000∧(zdG exit sts (i+1) (addL (0,[]) (zaI t))).2.length+zC sts[i].e+exit.length≤1000000) ∧
  (zg0 exit sts t).ok∧(zg0 exit sts t).2.length≤U.length:=by
 have hl:=ht.len
 have ha:SetU U (addL (0,[]) (zaI t)):=SetU.none.add ht.keysIn (by rw [ziw];omega)
 have hal:=ha.len
 have hac:=ha.clock
 refine ⟨fun i hi=>?_,?_⟩
 ·
  have c1:=zo7 (k:=exit.length) hi
  have c2:=zmB (k:=exit.length) (l:=sts) (i:=i)
  obtain ⟨f1,f2,f3⟩:=zpP (exit:=exit) (l:=sts.drop (i+1)) ha.ok (by omega) (by omega)
  exact ⟨f1,hsz _ (List.getElem_mem hi),by show ((sts.drop (i+1)).foldr (zdy exit) _).1+_+_≤_;omega,by show ((sts.drop (i+1)).foldr (zdy exit) _).2.length+_+_≤_;omega⟩
 ·
  obtain ⟨f1,f2,f3⟩:=zpP (exit:=exit) (l:=sts) ha.ok (by omega) (by omega)
  refine ⟨f1,?_⟩
  have:=List.Nodup.length_le_of_subset f1.keys (show ∀ x∈(sts.foldr (zdy exit) (addL (0,[]) (zaI t))).2.map (·.1),x∈U from zsC he ha.sub hu)
  rwa [List.length_map] at this
structure UnivB (U exit:List Int) (bl:List Bl):Prop where
 he:∀ x∈exit,x∈U
 hu:∀ b∈bl,∀ s∈b.stmts,∀ x∈zcF s,x∈U
 hsz:∀ b∈bl,∀ s∈b.stmts,zC s.e≤100000
 cost:∀ b∈bl,2 * U.length+za7 exit.length b.stmts≤1000000
 cs:∀ b∈bl,(∀ s∈b.stmts,s.cases.length≤100000000)∧b.stmts.length≤1000000∧(zE b.stmts).length≤1000000
 len:bl.length≤1000000
theorem UnivB.step {U exit:List Int} {bl:List Bl} (h:UnivB U exit bl) (p:BS) (k:Nat) (hk:k < bl.length) (hS:∀ i,SetU U (p.1 i)) (hT:∀ i,SetU U (p.2.1 i)) :
  (∀ i,SetU U ((stM exit bl p k).1 i))∧(∀ i,SetU U ((stM exit bl p k).2.1 i)):=by
 have hm:=List.getElem_mem hk
 have hc:=h.cost _ hm
 have hbk:(bl.map (·.stmts)).getD k []=bl[k].stmts:=zp hk
 unfold stM
 simp only [hbk]
 split
 · exact ⟨hS,hT⟩
 ·
  have hT':=fun i=>zA1 (n:=bl.length) (sts:=bl[k].stmts) (b:=k) hS hT (by omega) i
  obtain ⟨_,r2,r3⟩:=zpt (hT' k) h.he (h.hu _ hm) (h.hsz _ hm) hc
  refine ⟨fun i=>?_,hT'⟩
  simp only [updF]
  split
  ·
   refine (hS k).add (fun x hx=>?_) (by rw [ziw];omega)
   have ha:SetU U (addL (0,[]) (zaI (outM bl.length bl[k].stmts p k k))):=SetU.none.add (hT' k).keysIn (by have:=(hT' k).len;rw [ziw];omega)
   exact zsC h.he ha.sub (h.hu _ hm) x (ziz.1 hx)
  · exact hS i
theorem UnivB.room {U exit:List Int} {bl:List Bl} (h:UnivB U exit bl) (p:BS) (k:Nat) (hk:k < bl.length) (hS:∀ i,SetU U (p.1 i)) (hT:∀ i,SetU U (p.2.1 i)) :
   (∀ i,i < (zE bl[k].stmts).length→(((zE bl[k].stmts).take i).foldl (addT bl.length p.1) (p.2.1 k)).ok∧∀ j,j < bl.length→(((zE bl[k].stmts).take i).foldl (addT bl.length p.1) (p.2.1 k)).1+(p.1 j).2.length≤1000000∧(((zE bl[k].stmts).take i).foldl (addT bl.length p.1) (p.2.1 k)).2.length+(p.1 j).2.length≤1000000) ∧
   SetU U (outM bl.length bl[k].stmts p k k) ∧
   ∀ t,SetU U t→(∀ i (hi:i < bl[k].stmts.length),(zdG exit bl[k].stmts (i+1) (addL (0,[]) (zaI t))).ok∧zC bl[k].stmts[i].e≤100000∧(zdG exit bl[k].stmts (i+1) (addL (0,[]) (zaI t))).1+zC bl[k].stmts[i].e+exit.length≤1000000∧(zdG exit bl[k].stmts (i+1) (addL (0,[]) (zaI t))).2.length+zC bl[k].stmts[i].e+exit.length≤1000000) ∧
    (zg0 exit bl[k].stmts t).ok∧(p.1 k).1+(zg0 exit bl[k].stmts t).2.length≤1000000∧(p.1 k).2.length+(zg0 exit bl[k].stmts t).2.length≤1000000:=by
 have hm:=List.getElem_mem hk
 have hc:=h.cost _ hm
 refine ⟨fun i _=>?_,zA1 hS hT (by omega) k,fun t ht=>?_⟩
 ·
  have hf:=zsG (n:=bl.length) hS (by omega) (ts:=(zE bl[k].stmts).take i) (hT k)
  have l1:=hf.len
  have l2:=hf.clock
  refine ⟨hf.ok,fun j _=>?_⟩
  have l3:=(hS j).len
  exact ⟨by omega,by omega⟩
 ·
  obtain ⟨r1,r2,r3⟩:=zpt ht h.he (h.hu _ hm) (h.hsz _ hm) hc
  have l1:=(hS k).len
  have l2:=(hS k).clock
  exact ⟨r1,r2,by omega,by omega⟩
structure LinkB (exit:List Int) (bl:List Bl) (p:BS) (ins:List (List Int)):Prop where
 inv:LInvU exit bl ins
 s:∀ i,i < bl.length→∀ x,x∈(p.1 i).keys↔x∈ins.getD i []
 t:∀ i,i < bl.length→∀ x∈(p.2.1 i).keys,x∈endB ins ((bl.map (·.stmts)).getD i [])
theorem zrm {n:Nat} {S:Nat→MS} {x:Int}:∀ {ts:List Int} {a:MS},x∈(ts.foldl (addT n S) a).keys↔x∈a.keys∨∃ t∈ts,(0≤t∧t < n)∧x∈(S t.toNat).keys
 | [],a=>by simp
 |
  t::ts,a=>by
  rw [List.foldl_cons,zrm]
  unfold addT
  split
  ·
   rename_i h
   rw [zd3,ziz]
   constructor
   ·
    rintro ((h1 | h1) | ⟨t',h1,h2⟩)
    · exact .inl h1
    · exact .inr ⟨t,by simp,h,h1⟩
    · exact .inr ⟨t',List.mem_cons_of_mem _ h1,h2⟩
   ·
    rintro (h1 | ⟨t',h1,h2,h3⟩)
    · exact .inl (.inl h1)
    ·
     rcases List.mem_cons.1 h1 with rfl | h1
     · exact .inl (.inr h3)
     · exact .inr ⟨t',h1,h2,h3⟩
  ·
   rename_i h
   constructor
   ·
    rintro (h1 | ⟨t',h1,h2⟩)
    · exact .inl h1
    · exact .inr ⟨t',List.mem_cons_of_mem _ h1,h2⟩
   ·
    rintro (h1 | ⟨t',h1,h2,h3⟩)
    · exact .inl h1
    ·
     rcases List.mem_cons.1 h1 with rfl | h1
     · exact absurd h2 h
     · exact .inr ⟨t',h1,h2,h3⟩
theorem LinkB.out {exit:List Int} {bl:List Bl} {p:BS} {ins:List (List Int)} (h:LinkB exit bl p ins) {b:Nat} (hb:b < bl.length) (x:Int) :
  x∈(outM bl.length ((bl.map (·.stmts)).getD b []) p b b).keys↔x∈endB ins ((bl.map (·.stmts)).getD b []):=by
 unfold outM
 rw [ziF,zrm]
 constructor
 ·
  rintro (h1 | ⟨t,h1,h2,h3⟩)
  · exact h.t b hb x h1
  · exact zdi.2 ⟨t,h1,⟨h2.1,by rw [h.inv.len];exact h2.2⟩,(h.s _ (by omega) x).1 h3⟩
 ·
  intro h1
  obtain ⟨t,h1,h2,h3⟩:=zdi.1 h1
  rw [h.inv.len] at h2
  exact .inr ⟨t,h1,h2,(h.s _ (by omega) x).2 h3⟩
theorem zxZ {a b:List (List Int)} (hl:a.length=b.length) (h:∀ i,∀ x∈a.getD i [],x∈b.getD i []) {l:List St}:∀ x∈endB a l,x∈endB b l:=fun x hx=>by
 obtain ⟨t,h1,h2,h3⟩:=zdi.1 hx
 exact zdi.2 ⟨t,h1,⟨h2.1,by omega⟩,h _ x h3⟩
theorem zrn {U:List Int} {s:MS} (h:SetU U s) {l:List Int} (hl:Asc l) (he:∀ x,x∈s.keys↔x∈l):s.2.length=l.length:=by
 have h1:zaI s=l:=zkI h.ok hl fun x=>(he x).symm
 rw [← h1,ziw]
theorem LinkB.step {U exit:List Int} {bl:List Bl} (hU:UnivB U exit bl) {p:BS} {ins:List (List Int)} (h:LinkB exit bl p ins) {b:Nat} (hb:b < bl.length) (hS:∀ i,SetU U (p.1 i)) (hT:∀ i,SetU U (p.2.1 i)) :
  LinkB exit bl (stM exit bl p b) (zdS exit bl ins b)∧((stM exit bl p b).2.2=true↔p.2.2=true∨zaW ins < zaW (zdS exit bl ins b)):=by
 obtain ⟨i1,i2,i3⟩:=h.inv.toLInv.step hb
 have iU:=h.inv.step hb
 obtain ⟨t1,t2⟩:=h.inv.total_step hb
 obtain ⟨uS,_⟩:=hU.step p b hb hS hT
 have hout:=h.out hb
 have hlen:ins.length=(zdS exit bl ins b).length:=by rw [h.inv.len,iU.len]
 have hmono:=fun l=>zxZ (l:=l) hlen i2
 unfold stM at uS ⊢
 generalize hg:(bl.map (·.stmts)).getD b []=sts at hout uS ⊢
 simp only at uS ⊢
 by_cases hz:sts.length=0
 ·
  rw [if_pos hz]
  have hnew:newB exit bl ins b=[]:=by unfold newB zcR;rw [hg,if_pos hz]
  have hnil:ins.getD b []=[]:=by
   rw [List.eq_nil_iff_forall_not_mem]
   intro x hx
   have:=h.inv.sub b x hx
   rw [hnew] at this
   cases this
  have hst:zdS exit bl ins b=ins:=by unfold zdS;rw [hnew,hnil,if_pos rfl]
  rw [hst]
  exact ⟨h,by simp⟩
 ·
  rw [if_neg hz] at uS ⊢
  simp only at uS ⊢
  have hnew:newB exit bl ins b=zae exit sts (endB ins sts):=by unfold newB zcR;rw [hg,if_neg hz]
  have hlive:∀ x,x∈(zg0 exit sts (outM bl.length sts p b b)).keys↔x∈newB exit bl ins b:=fun x=>by
   rw [hnew]
   refine zrU (fun y=>?_) sts x
   rw [zd3,ziz,hout]
   simp [MS.keys]
  have hSb:∀ x,x∈(addL (p.1 b) (zaI (zg0 exit sts (outM bl.length sts p b b)))).keys↔x∈newB exit bl ins b:=fun x=>by
   rw [zd3,ziz,hlive,h.s b hb]
   exact ⟨fun hh=>hh.elim (h.inv.sub b x) id, .inr⟩
  have uSb:=uS b
  simp only [ziF] at uSb
  have l1:=zrn uSb zi0 hSb
  have l0:=zrn (hS b) (h.inv.asc b) (h.s b hb)
  refine ⟨⟨iU,fun i hi x=>?_,fun i hi x hx=>?_⟩,?_⟩
  ·
   simp only [updF]
   by_cases hib:i=b
   ·
    subst hib
    rw [if_pos rfl,hSb,i3]
   ·
    rw [if_neg hib,h.s i hi]
    unfold zdS
    split
    · rfl
    · rw [zhl (by rw [h.inv.len];exact hb),if_neg hib]
  ·
   by_cases hib:i=b
   ·
    subst hib
    rw [hout] at hx
    rw [hg]
    exact hmono _ x hx
   ·
    have:outM bl.length sts p b i=p.2.1 i:=by unfold outM updF;rw [if_neg hib]
    have hx:x∈(outM bl.length sts p b i).keys:=hx
    rw [this] at hx
    exact hmono _ x (h.t i hi x hx)
  ·
   rw [Bool.or_eq_true,decide_eq_true_eq,l0,l1]
   refine or_congr_right ?_
   unfold zdS
   have h2:=zjZ (h.inv.asc b) zi0 (h.inv.sub b)
   have h3:=zky ins b (newB exit bl ins b) (by rw [h.inv.len];exact hb)
   split
   · exact ⟨fun hh=>by omega,fun hh=>by omega⟩
   · exact ⟨fun hh=>by omega,fun hh=>by omega⟩
theorem zoW {exit:List Int} {bl:List Bl}:∀ (n:Nat) {p:BS} {i:Nat},n≤i→(zki exit bl n p).2.1 i=p.2.1 i
 | 0,p,i,_=>rfl
 |
  n+1,p,i,h=>by
  show (zki exit bl n (stM exit bl p n)).2.1 i=_
  rw [zoW n (by omega)]
  unfold stM
  simp only
  split
  · rfl
  ·
   simp only [outM,updF]
   rw [if_neg (by omega)]
structure PassB (U exit:List Int) (bl:List Bl) (n:Nat) (p:BS) (ins:List (List Int)):Prop where
 link:LinkB exit bl (zki exit bl n p) (zdM exit bl n ins)
 ch:(zki exit bl n p).2.2=true↔p.2.2=true∨zaW ins < zaW (zdM exit bl n ins)
 s:∀ i,SetU U ((zki exit bl n p).1 i)
 t:∀ i,SetU U ((zki exit bl n p).2.1 i)
 full:zdM exit bl n ins=ins→zaW (zdM exit bl n ins)=zaW ins→∀ i,i < n→∀ x∈endB ins ((bl.map (·.stmts)).getD i []),x∈((zki exit bl n p).2.1 i).keys
theorem LinkB.pass {U exit:List Int} {bl:List Bl} (hU:UnivB U exit bl):∀ (n:Nat) {p:BS} {ins:List (List Int)},LinkB exit bl p ins→n≤bl.length→(∀ i,SetU U (p.1 i))→(∀ i,SetU U (p.2.1 i))→PassB U exit bl n p ins
 | 0,p,ins,h,_,hS,hT=>⟨h,by show p.2.2=true↔_∨zaW ins < zaW ins;simp,hS,hT,fun _ _ i hi=>absurd hi (Nat.not_lt_zero _)⟩
 |
  n+1,p,ins,h,hn,hS,hT=>by
  obtain ⟨l1,c1⟩:=h.step hU (b:=n) (by omega) hS hT
  obtain ⟨s1,t1⟩:=hU.step p n (by omega) hS hT
  obtain ⟨m1,m2⟩:=h.inv.total_step (i:=n) (by omega)
  obtain ⟨_,m3,m4⟩:=l1.inv.pass (n:=n) (by omega)
  have ih:=LinkB.pass hU n l1 (by omega) s1 t1
  have e1:zki exit bl (n+1) p=zki exit bl n (stM exit bl p n):=rfl
  have e2:zdM exit bl (n+1) ins=zdM exit bl n (zdS exit bl ins n):=rfl
  refine ⟨by rw [e1,e2];exact ih.link,?_,by rw [e1];exact ih.s,by rw [e1];exact ih.t,fun _ htot i hi x hx=>?_⟩
  ·
   rw [e1,e2,ih.ch,c1,or_assoc]
   refine or_congr_right ?_
   omega
  ·
   rw [e2] at htot
   have e3:=m2 (by omega)
   rw [e1]
   by_cases hin:i=n
   ·
    subst hin
    rw [zoW i (Nat.le_refl _)]
    have hb:i < bl.length:=by omega
    have ho:=(h.out hb x).2 hx
    unfold stM
    generalize hg:(bl.map (·.stmts)).getD i []=sts at ho hx ⊢
    simp only
    split
    ·
     rename_i hz
     obtain rfl:sts=[]:=List.eq_nil_of_length_eq_zero hz
     obtain ⟨t,h1,_⟩:=zdi.1 hx
     cases h1
    · exact ho
   ·
    have e4:zdM exit bl n (zdS exit bl ins n)=zdS exit bl ins n:=(m4 (by omega)).1
    exact ih.full e4 (by rw [e4]) i (by omega) x (by rw [e3];exact hx)
structure RunB (U exit:List Int) (bl:List Bl) (p:BS) (ins:List (List Int)) (k:Nat):Prop where
 link:LinkB exit bl p ins
 s:∀ i,SetU U (p.1 i)
 t:∀ i,SetU U (p.2.1 i)
 fuel:zfS exit bl≤k+zaW ins
 go:fixL exit bl k ins=zaE exit bl
 done:p.2.2=false→ins=zaE exit bl∧∀ i,i < bl.length→∀ x∈endB ins ((bl.map (·.stmts)).getD i []),x∈(p.2.1 i).keys
def setB (p:BS) (c:Bool):BS:=(p.1,p.2.1,c)
def runM (exit:List Int) (bl:List Bl) (p:BS):BS:=zki exit bl bl.length (setB p false)
def zwu (exit:List Int) (bl:List Bl) (p:BS) (ins:List (List Int)):Nat:=2 * (zfS exit bl - zaW ins)+bif p.2.2 then 1 else 0
theorem RunB.next {U exit:List Int} {bl:List Bl} (hU:UnivB U exit bl) {p:BS} {ins:List (List Int)} {k:Nat} (h:RunB U exit bl p ins k) (hc:p.2.2=true) :
  ∃ ins' k',RunB U exit bl (runM exit bl p) ins' k'∧zwu exit bl (runM exit bl p) ins' < zwu exit bl p ins:=by
 have l0:LinkB exit bl (setB p false) ins:=⟨h.link.inv,h.link.s,h.link.t⟩
 have hp:=l0.pass hU bl.length (Nat.le_refl _) h.s h.t
 obtain ⟨i1,i2,i3⟩:=h.link.inv.pass (n:=bl.length) (Nat.le_refl _)
 have hb:=h.link.inv.bound
 have hb2:=i1.bound
 have hbd:zfS exit bl=bl.length * (univ exit bl).length+1:=rfl
 have hch:=hp.ch
 simp only [setB,Bool.false_eq_true,false_or] at hch
 have hfu:=h.fuel
 have hgo:=h.go
 cases k with
 | zero=>omega
 | succ k =>
 rw [fixL] at hgo
 by_cases he:zaW (zdM exit bl bl.length ins)=zaW ins
 ·
  rw [if_pos he] at hgo
  obtain ⟨e1,e2⟩:=i3 he.symm
  have hcf:(runM exit bl p).2.2=false:=by
   cases hx:(runM exit bl p).2.2 with
   | false=>rfl
   | true=>have:=hch.1 hx;omega
  refine ⟨ins,k+1,⟨?_,hp.s,hp.t,hfu,?_,fun _=>⟨hgo,hp.full e1 he⟩⟩,?_⟩
  ·
   have:=hp.link
   rw [e1] at this
   exact this
  · rw [fixL,if_pos he];exact hgo
  ·
   unfold zwu
   rw [hcf,hc]
   simp only [cond_true,cond_false]
   omega
 ·
  rw [if_neg he] at hgo
  have hct:(runM exit bl p).2.2=true:=hch.2 (by omega)
  refine ⟨_,k,⟨hp.link,hp.s,hp.t,by omega,hgo,fun hx=>?_⟩,?_⟩
  · rw [hct] at hx;cases hx
  ·
   unfold zwu
   rw [hct,hc]
   simp only [cond_true]
   omega
def zA4:BS:=(fun _=>(0,[]),fun _=>(0,[]),true)
theorem RunB.start {U exit:List Int} {bl:List Bl}:RunB U exit bl zA4 (bl.map fun _=>[]) (zfS exit bl):=by
 have e:∀ i,(bl.map fun _=>([]:List Int)).getD i []=[]:=fun i=>by
  rw [List.getD_eq_getElem?_getD,List.getElem?_map]
  cases bl[i]? <;> rfl
 exact ⟨⟨zkE exit bl,fun i _ x=>by rw [e];exact Iff.rfl,fun i _ x hx=>by cases hx⟩,fun _=>SetU.none,fun _=>SetU.none,by omega,rfl,fun h=>by cases h⟩
structure EndB (U exit:List Int) (bl:List Bl) (S T:Nat→MS):Prop where
 s:∀ i,SetU U (S i)
 t:∀ i,SetU U (T i)
 mS:∀ i,i < bl.length→∀ x,x∈(S i).keys↔x∈(zaE exit bl).getD i []
 mT:∀ i,i < bl.length→∀ x,x∈(T i).keys↔x∈zM exit bl i
theorem RunB.end {U exit:List Int} {bl:List Bl} {p:BS} {ins:List (List Int)} {k:Nat} (h:RunB U exit bl p ins k) (hc:p.2.2=false):EndB U exit bl p.1 p.2.1:=by
 obtain ⟨e,hd⟩:=h.done hc
 subst e
 exact ⟨h.s,h.t,h.link.s,fun i hi x=>⟨h.link.t i hi x,hd i hi x⟩⟩
theorem EndB.keyS {U exit:List Int} {bl:List Bl} {S T:Nat→MS} (h:EndB U exit bl S T) {i:Nat} (hi:i < bl.length):zaI (S i)=(zaE exit bl).getD i [] :=
 zkI (h.s i).ok ((zgN exit bl).1.asc i) fun x=>(h.mS i hi x).symm
theorem EndB.keyT {U exit:List Int} {bl:List Bl} {S T:Nat→MS} (h:EndB U exit bl S T) {i:Nat} (hi:i < bl.length):zaI (T i)=zM exit bl i :=
 zkI (h.t i).ok zmx fun x=>(h.mT i hi x).symm
theorem bd_l7 {Q:QT} (exit:List Int) (bl:List Bl) (ad:Int) (U:List Int) (hU:UnivB U exit bl)
  (hfin:∀ S T,EndB U exit bl S T→wpX Tryz.prog 0 zak Q [(1,za exit),(2,encP 2 [.int .u32 ad,encL 2 Bl.cells bl]),(6, .own 0 0 0 0 bl.length),(7, .own 1 0 0 0 bl.length),(39, .bool false)] (bdH bl.length S T) 4)
  {K:Kn} {H:AH} {nx:Nat} (hent:Ent 0 K H nx [(1,za exit),(2,encP 2 [.int .u32 ad,encL 2 Bl.cells bl]),(6, .own 0 0 0 0 bl.length),(7, .own 1 0 0 0 bl.length),(9, .bool true)] (bdH bl.length (fun _=>(0,[])) (fun _=>(0,[]))) 4) :
  zhW Tryz.prog 0 zbw (zaZ 2 (seqQ Tryz.prog 0 zak Q)) K H nx:=by
 have hB:=hBig
 refine zg (fun a:BS × List (List Int) × Nat=>([(1,za exit),(2,encP 2 [.int .u32 ad,encL 2 Bl.cells bl]),(6, .own 0 0 0 0 bl.length),(7, .own 1 0 0 0 bl.length),(9, .bool a.1.2.2)],bdH bl.length a.1.1 a.1.2.1)) 4
  (fun a=>RunB U exit bl a.1 a.2.1 a.2.2) (fun a=>zwu exit bl a.1 a.2.1) (zA4,bl.map fun _=>[],zfS exit bl) RunB.start hent ?_
 rintro ⟨p,ins,k⟩ hrun wf
 simp only at hrun
 unfold zbw
 cases hc:p.2.2 with
 |
  false =>
  (repeat first | simp (disch:=try exact dis1) only [evD,Nat.reduceBEq,Nat.reduceAdd,Nat.reduceLeDiff,bdH] | with_reducible intro _ | ((with_reducible apply And.intro);omega))
  exact hfin p.1 p.2.1 (hrun.end hc)
 |
  true =>
  obtain ⟨ins',k',h1,h2⟩:=hrun.next hU hc
  have hlen:=hU.len
  (repeat first | simp (disch:=try exact dis1) only [evD,Nat.reduceBEq,Nat.reduceAdd,Nat.reduceLeDiff,fldP,bdH] | with_reducible intro _ | ((with_reducible apply And.intro);omega))
  refine bd_l6 exit bl ad U (runM exit bl p) (setB p false) hlen (fun q k hk hS hT=>hU.step q k hk hS hT) hU.cs (fun q k hk hS hT=>hU.room q k hk hS hT) rfl hrun.s hrun.t ?_ ?_
  ·
   intro K2 H2 nx2 he
   exact ⟨(_,ins',k'),h1,h2,he⟩
  · exact (Ent.tab [(0,0,0),(1,1,0),(2,2,0),(3,3,0)] [] rfl (by (try simp only [evWB,Nat.reduceBEq,Nat.reduceAdd,Nat.reduceSub,Nat.reduceLeDiff,Nat.reduceLT,implies_true,bdH,za,famS,setB])<;>exact fin8) (by (try simp only [evWB,Nat.reduceBEq,Nat.reduceAdd,Nat.reduceSub,Nat.reduceLeDiff,Nat.reduceLT,implies_true,bdH,za,famS,setB])<;>exact fin8))
def mpsI (F n i:Nat):List (List AV):=(List.range n).map fun j=>if j < i then [.mp F (j+1)] else [.nilmp]
def zkH (i:Nat):Nat→List MC:=fun j=>if j < i then setM 0 [] else []
def famI (n i:Nat):AObj:=.fam 3 (fi cm n (zkH i) (fun _=>0))
def bdI (n i:Nat):AH:=[(0, .row 1 (mpsI 2 n i) 0),(1, .row 1 (mpsI 3 n i) 0),(2,famI n i),(3,famI n i)]
theorem zzo {F n i:Nat}:(mpsI F n i).length=n:=by simp [mpsI]
theorem zr0 {F n:Nat}:mpsI F n n=mps F n:=by
 unfold mpsI mps
 refine List.map_congr_left fun j hj=>?_
 rw [if_pos (List.mem_range.1 hj)]
theorem zyu {F n:Nat}:List.replicate n [AV.nilmp]=mpsI F n 0:=by
 apply List.ext_getElem
 · simp [mpsI]
 · intro k h1 h2;simp [mpsI]
theorem zyO {n:Nat}:famI n n=famS n (fun _=>(0,[])):=by
 unfold famI famS fi
 congr 1
 refine List.map_congr_left fun j hj=>?_
 unfold zkH
 rw [if_pos (List.mem_range.1 hj)]
theorem zAH {n:Nat}:bdI n n=bdH n (fun _=>(0,[])) (fun _=>(0,[])):=by
 unfold bdI bdH
 rw [zr0,zr0,zyO]
abbrev T4:Tab:=[(0,0,0),(1,1,0),(2,2,0),(3,3,0)]
abbrev F4 (i a b:Nat):Fds:=[(2,i+1,a),(3,i+1,b)]
theorem beqN {a b:Nat} (h:a≠b):Nat.beq a b=false:=by
 cases hx:Nat.beq a b with
 | false=>rfl
 | true=>exact absurd (Nat.eq_of_beq_eq_true hx) h
theorem f4_2 {i k a b:Nat}:fsig T4 (F4 i a b) 2 (k+1)=if k=i then some (a,0,0) else some (2,k+1,0):=by
 unfold fsig F4
 simp only [fat]
 by_cases h:k=i
 ·
  subst h
  rw [if_pos rfl,show Nat.beq 2 2=true from rfl,Nat.beq_refl]
  rfl
 ·
  rw [if_neg h,beqN (show i+1≠k+1 by omega),Bool.and_false,Bool.and_false]
  rfl
theorem f4_3 {i k a b:Nat}:fsig T4 (F4 i a b) 3 (k+1)=if k=i then some (b,0,0) else some (3,k+1,0):=by
 unfold fsig F4
 simp only [fat]
 by_cases h:k=i
 ·
  subst h
  rw [if_pos rfl,show Nat.beq 3 3=true from rfl,show Nat.beq 2 3=false from rfl,Nat.beq_refl]
  rfl
 ·
  rw [if_neg h,beqN (show i+1≠k+1 by omega),Bool.and_false,Bool.and_false]
  rfl
theorem zq8 {H HH:AH} {σ:Nat→Nat→Option (Nat × Nat × Nat)} {D:Nat→Nat→Prop} {F n i a:Nat} (h1:∀ k,σ F (k+1)=if k=i then some (a,0,0) else some (F,k+1,0)) :
  RowV H HH σ D ((mpsI F n i).set i [.mp a 0]) (mpsI F n (i+1)):=by
 refine ⟨by simp [mpsI],fun j c2 hj=>?_⟩
 unfold mpsI at hj ⊢
 simp only [List.getElem?_map,Option.map_eq_some_iff] at hj
 obtain ⟨k,hk,rfl⟩:=hj
 obtain ⟨hkl,hkk⟩:=List.getElem?_eq_some_iff.1 hk
 simp only [List.length_range] at hkl
 rw [List.getElem_range] at hkk
 subst hkk
 by_cases hji:j=i
 ·
  subst hji
  rw [if_pos (Nat.lt_succ_self j)]
  refine ⟨[.mp a 0],by simp [hkl],rfl,fun z x y h3 h4=>?_⟩
  cases z with
  | succ z=>cases h3
  |
   zero =>
   cases h3
   cases h4
   exact .mp _ _ _ _ (by rw [h1,if_pos rfl])
 ·
  by_cases hlt:j < i
  ·
   rw [if_pos (by omega)]
   refine ⟨[.mp F (j+1)],?_,rfl,fun z x y h3 h4=>?_⟩
   ·
    rw [List.getElem?_set_ne (fun e=>hji e.symm)]
    simp [hkl,hlt]
   ·
    cases z with
    | succ z=>cases h3
    |
     zero =>
     cases h3
     cases h4
     exact .mp _ _ _ _ (by rw [h1,if_neg hji])
  ·
   rw [if_neg (by omega)]
   refine ⟨[.nilmp],?_,rfl,fun z x y h3 h4=>?_⟩
   ·
    rw [List.getElem?_set_ne (fun e=>hji e.symm)]
    simp [hkl,hlt]
   ·
    cases z with
    | succ z=>cases h3
    |
     zero =>
     cases h3
     cases h4
     exact .nilmp _
theorem zwN {H:AH} {F n i k:Nat} (h:H.look F=some (famI n i)) (hk:k < n):H.get F (k+1)=some (.row 3 ((zkH i k).map cm) 0):=by
 unfold AH.get
 rw [h]
 simp only [Option.bind_some,famI,AObj.part,zn6 hk,Option.map_some]
theorem zuI {H HH:AH} {σ:Nat→Nat→Option (Nat × Nat × Nat)} {F n i a:Nat} (h1:∀ k,σ F (k+1)=if k=i then some (a,0,0) else some (F,k+1,0))
  (hF:H.look F=some (famI n i)) (ha:H.get a 0=some (.row 3 [[.int .i64 0, .undef, .undef]] 0)) (k:Nat) (p:List (List AV) × Nat) (hp:(fi cm n (zkH (i+1)) (fun _=>0))[k]? = some p) :
  match σ F (k+1) with
   | some (r,q,d)=>∃ els,H.get r q=some (.row 3 els (p.2+d))∧RowV H HH σ noQ els p.1
   | none=>p=([],0):=by
 rw [zpz] at hp
 split at hp
 case isFalse=>cases hp
 rename_i hk
 cases hp
 rw [h1]
 by_cases hki:k=i
 ·
  subst hki
  rw [if_pos rfl]
  refine ⟨_,ha,?_⟩
  have:zkH (k+1) k=setM 0 []:=if_pos (Nat.lt_succ_self k)
  rw [this]
  exact RowV.of_flat (by simp only [zeY,zf7,and_true];rfl)
 ·
  rw [if_neg hki]
  refine ⟨_,zwN hF hk,?_⟩
  have:zkH (i+1) k=zkH i k:=by
   unfold zkH
   by_cases hlt:k < i
   · rw [if_pos hlt,if_pos (by omega)]
   · rw [if_neg hlt,if_neg (by omega)]
  rw [this]
  exact RowV.of_flat (zh zS)
theorem zyw {K K2:Kn} {H:AH} {nx n i:Nat} (h0:H.get 0 0=some (.row 1 ((mpsI 2 n i).set i [.mp 4 0]) 0)) (h1:H.get 1 0=some (.row 1 ((mpsI 3 n i).set i [.mp 5 0]) 0))
  (h2:H.look 2=some (famI n i)) (h3:H.look 3=some (famI n i)) (h4:H.get 4 0=some (.row 3 [[.int .i64 0, .undef, .undef]] 0)) (h5:H.get 5 0=some (.row 3 [[.int .i64 0, .undef, .undef]] 0))
  (hK:zuQ H (bdI n (i+1)) (fsig T4 (F4 i 4 5)) K2 K):Ent 0 K H nx K2 (bdI n (i+1)) 4 :=
 Ent.fold T4 (F4 i 4 5) rfl rfl ⟨rfl,⟨_,h0,zq8 fun _=>f4_2⟩,rfl,⟨_,h1,zq8 fun _=>f4_3⟩,rfl,fun k p hp=>zuI (fun _=>f4_2) h2 h4 k p hp,rfl,fun k p hp=>zuI (fun _=>f4_3) h3 h5 k p hp,trivial⟩ hK
theorem zr4 {H HH:AH} {σ:Nat→Nat→Option (Nat × Nat × Nat)} {D:Nat→Nat→Prop} {F n:Nat}:RowV H HH σ D (List.replicate n [.nilmp]) (mpsI F n 0):=by
 rw [← zyu]
 refine ⟨rfl,fun i c2 hi=>⟨c2,hi,rfl,fun j x y h1 h2=>?_⟩⟩
 obtain ⟨_,rfl⟩:=List.getElem?_eq_some_iff.1 hi
 rw [List.getElem_replicate] at h1 h2
 rw [h1] at h2
 cases h2
 cases j with
 | succ j=>cases h1
 | zero=>cases h1;exact .nilmp _
theorem zrG {n:Nat} (i:Nat) (p:List (List AV) × Nat) (hp:(fi cm n (zkH 0) (fun _=>0))[i]? = some p):p=([],0):=by
 rw [zpz] at hp
 split at hp
 · cases hp;rfl
 · cases hp
theorem zpc {K K2:Kn} {H:AH} {nx n a b:Nat} (h0:H.get a 0=some (.row 1 (List.replicate n [.nilmp]) 0)) (h1:H.get b 0=some (.row 1 (List.replicate n [.nilmp]) 0))
  (hok:Tab.ok 4 [] [(0,a,0),(1,b,0)]=true) (hK:zlX H (bdI n 0) [(0,a,0),(1,b,0)] [] K2 K):Ent 0 K H nx K2 (bdI n 0) 4 :=
 Ent.tab [(0,a,0),(1,b,0)] [] hok ⟨rfl,⟨_,h0,zr4⟩,rfl,⟨_,h1,zr4⟩,rfl,zrG,rfl,zrG,trivial⟩ hK
theorem bd_l0 {Q:QT} (exit:List Int) (bl:List Bl) (ad:Int) (U:List Int) (hU:UnivB U exit bl)
  (hfin:∀ S T,EndB U exit bl S T→wpX Tryz.prog 0 zak Q [(1,za exit),(2,encP 2 [.int .u32 ad,encL 2 Bl.cells bl]),(6, .own 0 0 0 0 bl.length),(7, .own 1 0 0 0 bl.length),(39, .bool false)] (bdH bl.length S T) 4)
  {K:Kn} {H:AH} {nx:Nat} (hent:Ent 0 K H nx [(1,za exit),(2,encP 2 [.int .u32 ad,encL 2 Bl.cells bl]),(6, .own 0 0 0 0 bl.length),(7, .own 1 0 0 0 bl.length),(26, .int .i64 bl.length),(27, .int .i64 0)] (bdI bl.length 0) 4) :
  zhW Tryz.prog 0 zbs (zaZ 0 (seqQ Tryz.prog 0 zbv Q)) K H nx:=by
 have hB:=hBig
 have hlen:=hU.len
 refine zg (fun i:Nat=>([(1,za exit),(2,encP 2 [.int .u32 ad,encL 2 Bl.cells bl]),(6, .own 0 0 0 0 bl.length),(7, .own 1 0 0 0 bl.length),(26, .int .i64 bl.length),(27, .int .i64 i)],bdI bl.length i)) 4
  (fun i=>i≤bl.length) (fun i=>bl.length - i) 0 (Nat.zero_le _) hent ?_
 rintro i hi wf
 unfold zbs
 by_cases hil:i < bl.length
 ·
  (repeat first | simp (disch:=try exact dis1) only [evD,Nat.reduceBEq,Nat.reduceAdd,Nat.reduceLeDiff,dT,bdI,zzo] | with_reducible intro _ | ((with_reducible apply And.intro);omega))
  exact ⟨i+1,by omega,by omega,zyw rfl rfl rfl rfl rfl rfl ⟨zT rfl,zT rfl, .own _ _ _ 0 _ _ _ _ _ rfl rfl, .own _ _ _ 0 _ _ _ _ _ rfl rfl, .int _ _ _, .int _ _ _,trivial⟩⟩
 ·
  obtain rfl:i=bl.length:=by omega
  rw [zAH]
  (repeat first | simp (disch:=try exact dis1) only [evD,Nat.reduceBEq,Nat.reduceAdd,Nat.reduceLeDiff,dF] | with_reducible intro _ | ((with_reducible apply And.intro);omega))
  unfold zbv
  (repeat first | simp (disch:=try exact dis1) only [evD,Nat.reduceBEq,Nat.reduceAdd,Nat.reduceLeDiff] | with_reducible intro _ | ((with_reducible apply And.intro);omega))
  refine bd_l7 exit bl ad U hU hfin ?_
  exact (Ent.tab [(0,0,0),(1,1,0),(2,2,0),(3,3,0)] [] rfl (by (try simp only [evWB,Nat.reduceBEq,Nat.reduceAdd,Nat.reduceSub,Nat.reduceLeDiff,Nat.reduceLT,implies_true,bdH,za,famS])<;>exact fin8) (by (try simp only [evWB,Nat.reduceBEq,Nat.reduceAdd,Nat.reduceSub,Nat.reduceLeDiff,Nat.reduceLT,implies_true,bdH,za,famS])<;>exact fin8))
theorem zkj (g:G) (exit:List Int) (U:List Int) (hU:UnivB U exit g.blocks):zad Tryz.prog zbp [.agg g.cells,za exit] [] 0
  (fun v H nx=>∃ S T,v=.tup [.own 0 0 0 0 g.blocks.length, .own 1 0 0 0 g.blocks.length]∧H=bdH g.blocks.length S T∧nx=4∧EndB U exit g.blocks S T):=by
 refine zbZ (fn_x zhS rfl ?_)
 unfold zdC
 have hB:=hBig
 have hlen:=hU.len
 obtain ⟨ad,bl⟩:=g
 simp only at hU hlen ⊢
 (repeat first | simp (disch:=try exact dis1) only [evD,Nat.reduceBEq,Nat.reduceAdd,Nat.reduceLeDiff,fldP,G.cells,za] | with_reducible intro _ | ((with_reducible apply And.intro);omega))
 (repeat' with_reducible apply And.intro)
 all_goals try omega
 all_goals intro _ _
 all_goals refine bd_l0 exit bl ad U hU ?_ ?_
 all_goals first
  | (rintro S T hend;unfold zak;(repeat first | simp (disch:=try exact dis1) only [evD,Nat.reduceBEq,Nat.reduceAdd,Nat.reduceLeDiff,zdB,bdH] | with_reducible intro _ | ((with_reducible apply And.intro);omega));exact ⟨.tup [.own 0 0 0 0 bl.length, .own 1 0 0 0 bl.length],_,4,(Ent.tab [(0,0,0),(1,1,0),(2,2,0),(3,3,0)] [] rfl (by (try simp only [evWB,Nat.reduceBEq,Nat.reduceAdd,Nat.reduceSub,Nat.reduceLeDiff,Nat.reduceLT,implies_true,bdH,za,famS])<;>exact fin8) (by (try simp only [evWB,Nat.reduceBEq,Nat.reduceAdd,Nat.reduceSub,Nat.reduceLeDiff,Nat.reduceLT,implies_true,bdH,za,famS])<;>exact fin8)),S,T,rfl,rfl,rfl,hend⟩)
  | exact zpc (a:=2) (b:=3) rfl rfl rfl ⟨zT rfl,zT rfl, .own _ _ _ 0 _ _ _ _ _ rfl rfl, .own _ _ _ 0 _ _ _ _ _ rfl rfl, .int _ _ _, .int _ _ _,trivial⟩
  | exact zpc (a:=3) (b:=2) rfl rfl rfl ⟨zT rfl,zT rfl, .own _ _ _ 0 _ _ _ _ _ rfl rfl, .own _ _ _ 0 _ _ _ _ _ rfl rfl, .int _ _ _, .int _ _ _,trivial⟩
def cLL (l:List Int):List AV:=[za l]
def zcZ (A:List (List Int)):AV:=encL 1 cLL A
theorem zzG:∀ l,zK (cLL l)=true:=fun _=>rfl
theorem zmy {H H2:AH} {σ:Nat→Nat→Option (Nat × Nat × Nat)} {D:Nat→Nat→Prop} {t:Bool} {r q g:Nat} {l:List (List Int)} (hD:D r q) (hg:H.get r q=some (.row 1 (l.map cLL) g)) (hb:l.length≤big) :
  Vw H H2 σ D t (.own r q g 0 l.length) (zcZ l) :=
 zih hD hg hb fun a _ j hj=>by
  obtain rfl:j=0:=by omega
  exact zT rfl
def rowI (L:Nat→List Int) (n i:Nat):List (List AV):=(List.range n).map fun j=>if j < i then cLL (L j) else [.nilsl]
theorem zuT {L:Nat→List Int} {n i:Nat}:(rowI L n i).length=n:=by simp [rowI]
theorem zzw {L:Nat→List Int} {n i:Nat}:(rowI L n i).set i [za (L i)]=rowI L n (i+1):=by
 unfold rowI
 rw [zeR]
 refine List.map_congr_left fun j hj=>?_
 unfold updF
 by_cases h:j=i
 · subst h;rw [if_pos rfl,if_pos (Nat.lt_succ_self j)];rfl
 ·
  rw [if_neg h]
  simp only
  by_cases h2:j < i
  · rw [if_pos h2,if_pos (by omega)]
  · rw [if_neg h2,if_neg (by omega)]
theorem zke {L:Nat→List Int} {n i:Nat}:(rowI L n i).set i [encL 1 (fun n=>[.int .i64 n]) (L i)]=rowI L n (i+1):=zzw
theorem zmP {L:Nat→List Int} {n:Nat}:rowI L n n=((List.range n).map L).map cLL:=by
 unfold rowI
 rw [List.map_map]
 refine List.map_congr_left fun j hj=>?_
 rw [if_pos (List.mem_range.1 hj)]
 rfl
theorem zgw {L:Nat→List Int} {n:Nat}:List.replicate n [AV.nilsl]=rowI L n 0:=by
 apply List.ext_getElem
 · simp [rowI]
 · intro k h1 h2;simp [rowI]
theorem zap {L:Nat→List Int} {n i:Nat}:zB (rowI L n i):=by
 intro c hc
 obtain ⟨j,_,rfl⟩:=List.mem_map.1 hc
 split<;>rfl
theorem renP {ρ:Nat→Nat} {F n g:Nat}:AObj.ren ρ (.row 1 (mps F n) g)=.row 1 (mps (ρ F) n) g:=by
 simp only [AObj.ren,mps,List.map_map]
 congr 1
 refine List.map_congr_left fun i _=>?_
 simp [AV.ren]
def zip (exit:List Int) (bl:List Bl):List (List Int):=(List.range bl.length).map (zM exit bl)
theorem zvB {α:Type} {l:List α} {d:α}:(List.range l.length).map (fun i=>l.getD i d)=l:=by
 apply List.ext_getElem
 · simp
 · intro k h1 h2;simp [List.getD_eq_getElem?_getD,h2]
def zoD (n:Nat) (S T:Nat→MS) (LS LT:Nat→List Int) (i:Nat):AH:=[(0, .row 1 (mps 2 n) 0),(1, .row 1 (mps 3 n) 0),(2,famS n S),(3,famS n T),(4, .row 1 (rowI LS n i) 0),(5, .row 1 (rowI LT n i) 0)]
theorem lv_l0 (n:Nat) (S T:Nat→MS) (LS LT:Nat→List Int) (A B:List (List Int)) (hn:n≤1000000) (hS:∀ i,i < n→(S i).ok∧zaI (S i)=LS i) (hT:∀ i,i < n→(T i).ok∧zaI (T i)=LT i)
  (hA:(List.range n).map LS=A) (hC:(List.range n).map LT=B)
  {K:Kn} {H:AH} {nx:Nat} (hent:Ent 0 K H nx [(6, .own 0 0 0 0 n),(7, .own 1 0 0 0 n),(8, .own 4 0 0 0 n),(9, .own 5 0 0 0 n),(24, .int .i64 n),(25, .int .i64 0)] (zoD n S T LS LT 0) 6) :
  zhW Tryz.prog 0 zcT (zaZ 0 (seqQ Tryz.prog 0 zcW (retK zes fun v H' _=>∃ a,Frz H' v a∧a=.tup [zcZ A,zcZ B]))) K H nx:=by
 have hB:=hBig
 refine zg (fun i:Nat=>([(6, .own 0 0 0 0 n),(7, .own 1 0 0 0 n),(8, .own 4 0 0 0 n),(9, .own 5 0 0 0 n),(24, .int .i64 n),(25, .int .i64 i)],zoD n S T LS LT i)) 6
  (fun i=>i≤n) (fun i=>n - i) 0 (Nat.zero_le _) hent ?_
 rintro i hi wf
 unfold zcT
 by_cases hil:i < n
 ·
  obtain ⟨s1,s2⟩:=hS i hil
  obtain ⟨t1,t2⟩:=hT i hil
  have s3:zcm ((S i).2.map (·.1))=LS i:=s2
  have t3:zcm ((T i).2.map (·.1))=LT i:=t2
  (repeat first | simp (disch:=try exact dis1) only [evD,Nat.reduceBEq,Nat.reduceAdd,Nat.reduceLeDiff,dT,zoD,zgf,zep hil] | with_reducible intro _ | ((with_reducible apply And.intro);omega))
  (repeat' with_reducible apply And.intro)
  all_goals try omega
  all_goals first
   | (refine zX [(0,2,0)] 1 _ (zck n i hil S s1) rfl rfl (by (try simp only [evWB,Nat.reduceBEq,Nat.reduceAdd,Nat.reduceSub,Nat.reduceLeDiff,Nat.reduceLT,implies_true,famS])<;>exact fin8) (by (try simp only [evWB,Nat.reduceBEq,Nat.reduceAdd,Nat.reduceSub,Nat.reduceLeDiff,Nat.reduceLT,implies_true,famS])<;>exact fin8) ?_)
   | (refine zX [(0,3,0)] 1 _ (zck n i hil T t1) rfl rfl (by (try simp only [evWB,Nat.reduceBEq,Nat.reduceAdd,Nat.reduceSub,Nat.reduceLeDiff,Nat.reduceLT,implies_true,famS])<;>exact fin8) (by (try simp only [evWB,Nat.reduceBEq,Nat.reduceAdd,Nat.reduceSub,Nat.reduceLeDiff,Nat.reduceLT,implies_true,famS])<;>exact fin8) ?_)
  all_goals (rintro _ _ _ ⟨rfl,rfl,rfl⟩;(repeat first | simp (disch:=try exact dis1) only [evD,Nat.reduceBEq,Nat.reduceAdd,Nat.reduceLeDiff,renE,renF,s3,t3,zgf,zep hil] | with_reducible intro _ | ((with_reducible apply And.intro);omega)))
  all_goals (repeat' with_reducible apply And.intro)
  all_goals try omega
  all_goals first
   | (refine zX [(0,3,0)] 1 _ (zck n i hil T t1) rfl rfl (by (try simp only [evWB,Nat.reduceBEq,Nat.reduceAdd,Nat.reduceSub,Nat.reduceLeDiff,Nat.reduceLT,implies_true,famS])<;>exact fin8) (by (try simp only [evWB,Nat.reduceBEq,Nat.reduceAdd,Nat.reduceSub,Nat.reduceLeDiff,Nat.reduceLT,implies_true,famS])<;>exact fin8) ?_)
   | (refine zX [(0,2,0)] 1 _ (zck n i hil S s1) rfl rfl (by (try simp only [evWB,Nat.reduceBEq,Nat.reduceAdd,Nat.reduceSub,Nat.reduceLeDiff,Nat.reduceLT,implies_true,famS])<;>exact fin8) (by (try simp only [evWB,Nat.reduceBEq,Nat.reduceAdd,Nat.reduceSub,Nat.reduceLeDiff,Nat.reduceLT,implies_true,famS])<;>exact fin8) ?_)
  all_goals (rintro _ _ _ ⟨rfl,rfl,rfl⟩;(repeat first | simp (disch:=try exact dis1) only [evD,Nat.reduceBEq,Nat.reduceAdd,Nat.reduceLeDiff,renE,renF,s3,t3,zgf,zep hil,zuT] | with_reducible intro _ | ((with_reducible apply And.intro);omega)))
  all_goals refine ⟨⟨hil,rfl,rfl⟩,⟨by omega,by omega⟩,⟨hil,rfl,rfl⟩,i+1,by omega,by omega,?_⟩
  all_goals exact (Ent.tab [(0,0,0),(1,1,0),(2,2,0),(3,3,0),(4,4,0),(5,5,0)] [] rfl (by (try simp only [evWB,Nat.reduceBEq,Nat.reduceAdd,Nat.reduceSub,Nat.reduceLeDiff,Nat.reduceLT,implies_true,zoD,famS,zke])<;>exact fin8) (by (try simp only [evWB,Nat.reduceBEq,Nat.reduceAdd,Nat.reduceSub,Nat.reduceLeDiff,Nat.reduceLT,implies_true,zoD,famS,zke])<;>exact fin8))
 ·
  obtain rfl:i=n:=by omega
  (repeat first | simp (disch:=try exact dis1) only [evD,Nat.reduceBEq,Nat.reduceAdd,Nat.reduceLeDiff,dF] | with_reducible intro _ | ((with_reducible apply And.intro);omega))
  unfold zcW
  (repeat first | simp (disch:=try exact dis1) only [evD,Nat.reduceBEq,Nat.reduceAdd,Nat.reduceLeDiff,zes,zoD] | with_reducible intro _ | ((with_reducible apply And.intro);omega))
  rw [zmP,zmP,hA,hC]
  have la:A.length=i:=by rw [← hA];simp
  have lb:B.length=i:=by rw [← hC];simp
  refine ⟨.tup [zcZ A,zcZ B], .tup _ _ _ rfl ?_,rfl⟩
  intro k x y h1 h2
  rcases k with _ | _ | k
  ·
   cases h1;cases h2
   have:=@zmy [(0, .row 1 (mps 2 i) 0),(1, .row 1 (mps 3 i) 0),(2,famS i S),(3,famS i T),(4, .row 1 (A.map cLL) 0),(5, .row 1 (B.map cLL) 0)] [] nos allR false 4 0 0 A trivial rfl (by omega)
   rw [la] at this
   exact this
  ·
   cases h1;cases h2
   have:=@zmy [(0, .row 1 (mps 2 i) 0),(1, .row 1 (mps 3 i) 0),(2,famS i S),(3,famS i T),(4, .row 1 (A.map cLL) 0),(5, .row 1 (B.map cLL) 0)] [] nos allR false 5 0 0 B trivial rfl (by omega)
   rw [lb] at this
   exact this
  · cases h1
theorem zl9 (g:G) (exit U:List Int) (hU:UnivB U exit g.blocks):zz Tryz.prog zfs [.agg g.cells,za exit] (·=.tup [zcZ (zaE exit g.blocks),zcZ (zip exit g.blocks)]):=by
 refine fn_x zmj rfl ?_
 unfold zhR
 have hB:=hBig
 have hlen:=hU.len
 have hbd:=zkj g exit U hU
 obtain ⟨ad,bl⟩:=g
 simp only at hU hlen hbd ⊢
 simp only [G.cells] at hbd
 (repeat first | simp (disch:=try exact dis1) only [evD,Nat.reduceBEq,Nat.reduceAdd,Nat.reduceLeDiff,fldP,G.cells,za] | with_reducible intro _ | ((with_reducible apply And.intro);omega))
 refine zX [] 0 _ (hbd) rfl rfl fin8 fin8 ?_
 rintro _ _ _ ⟨S,T,rfl,rfl,rfl,hend⟩
 (repeat first | simp (disch:=try exact dis1) only [evD,Nat.reduceBEq,Nat.reduceAdd,Nat.reduceLeDiff,bdH,renP,renF] | with_reducible intro _ | ((with_reducible apply And.intro);omega))
 (repeat' with_reducible apply And.intro)
 all_goals try omega
 all_goals try intro _
 all_goals refine lv_l0 bl.length S T (fun i=>(zaE exit bl).getD i []) (zM exit bl) _ _ hlen (fun i hi=>⟨(hend.s i).ok,hend.keyS hi⟩) (fun i hi=>⟨(hend.t i).ok,hend.keyT hi⟩) (by have:=@zvB _ (zaE exit bl) [];rw [(zgN exit bl).1.len] at this;exact this) rfl ?_
 · exact (Ent.tab [(0,2,0),(1,3,0),(2,4,0),(3,5,0),(4,6,0),(5,7,0)] [] rfl (by (try simp only [evWB,Nat.reduceBEq,Nat.reduceAdd,Nat.reduceSub,Nat.reduceLeDiff,Nat.reduceLT,implies_true,zoD,famS,← zgw])<;>exact fin8) (by (try simp only [evWB,Nat.reduceBEq,Nat.reduceAdd,Nat.reduceSub,Nat.reduceLeDiff,Nat.reduceLT,implies_true,zoD,famS,← zgw])<;>exact fin8))
 · exact (Ent.tab [(0,2,0),(1,3,0),(2,4,0),(3,5,0),(4,7,0),(5,6,0)] [] rfl (by (try simp only [evWB,Nat.reduceBEq,Nat.reduceAdd,Nat.reduceSub,Nat.reduceLeDiff,Nat.reduceLT,implies_true,zoD,famS,← zgw])<;>exact fin8) (by (try simp only [evWB,Nat.reduceBEq,Nat.reduceAdd,Nat.reduceSub,Nat.reduceLeDiff,Nat.reduceLT,implies_true,zoD,famS,← zgw])<;>exact fin8))
end Go.Ab
