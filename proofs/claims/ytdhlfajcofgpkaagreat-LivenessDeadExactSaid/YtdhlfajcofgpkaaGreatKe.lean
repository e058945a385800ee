/-
  Part 5 of the proof: how the calls of this program run, over values instead of memory, and what each function computes.
-/
import Derived.Test.YtdhlfajcofgpkaaGreatProg
import Derived.Shelf.SlIterI.Nil
import Derived.Shelf.SortM.Plain
import Derived.Shelf.SortM.SortNone
import Derived.Test.YtdhlfajcofgpkaaGreatKd
set_option maxRecDepth 100000
set_option linter.unusedVariables false
set_option linter.unusedSimpArgs false
set_option linter.unnecessarySimpa false
set_option linter.unusedSectionVars false
namespace Go.Ab
open Go.RowKit
section
variable {P:Program}
theorem zxI {ops:Array Oper} {bs:List AOper} {Qc:Exit→Act→World→Prop} (hlen:bs.length=ops.size) (J:List Bool→Act→World→Prop)
  (hend:∀ l a w,l.length=bs.length→J l a w→(∀ i,i < bs.length→zaj (ops.toList.map zcr) l i=false)→Qc .normal a w)
  (hstep:∀ l i a w,l.length=bs.length→i < bs.length→zaj (ops.toList.map zcr) l i=true→J l a w→∀ o,ops[i]? = some o →
   if Region.wanted o (yielded ops a.tmps) then o.wp P a w (J (l.set i true)) Qc else J (l.set i true) (a.put o.dst undef) w) :
  ∀ (fuel:Nat) (l:List Bool) (a:Act) (w:World),l.length=bs.length→zeA l≤fuel→J l a w→wpAny P .any ops Qc fuel l.toArray a w
 |
  0,l,a,w,hl,hc,hj=>by
  have hno:∀ i,i < bs.length→zaj (ops.toList.map zcr) l i=false:=fun i hi=>by
   have:=zhe (l:=l) (by omega) i (by omega)
   unfold zaj
   rw [this]
   rfl
  refine ⟨?_,hend l a w hl hj hno⟩
  rw [List.eq_nil_iff_forall_not_mem]
  intro j hj
  obtain ⟨h1,h2⟩:=(zgv (by omega)).1 hj
  rw [hno j (by omega)] at h2
  cases h2
 |
  fuel+1,l,a,w,hl,hc,hj=>by
  refine ⟨fun h0=>hend l a w hl hj fun i hi=>?_,fun i hi=>?_⟩
  ·
   cases hb:zaj (ops.toList.map zcr) l i with
   | false=>rfl
   |
    true =>
    have:i∈Region.ready .any ops l.toArray:=(zgv (by omega)).2 ⟨by omega,hb⟩
    rw [h0] at this
    simp at this
  ·
   obtain ⟨h1,h2⟩:=(zgv (by omega)).1 hi
   have ho:ops[i]? = some ops[i]:=Array.getElem?_eq_getElem h1
   have hset:=ziS (l:=l) (i:=i) (by omega) (zag.1 h2).1
   have next:∀ a w,J (l.set i true) a w→wpAny P .any ops Qc fuel (l.toArray.setIfInBounds i true) a w:=fun a w hj=>by
    have:=zxI hlen J hend hstep fuel (l.set i true) a w (by simpa using hl) (by omega) hj
    simpa using this
   have:=hstep l i a w hl (by omega) h2 hj ops[i] ho
   unfold wpOp
   rw [ho]
   simp only
   split
   ·
    rename_i hw
    rw [if_pos hw] at this
    exact .inl (Oper.wp_mono (fun a w h=>next a w h) this)
   ·
    rename_i hw
    rw [if_neg hw] at this
    exact next _ _ this
def valX (P:Program) (call:zbj) (o:AOper) (ρ:Nat→AV) (H:AH) (nx:Nat):Option (AV × AH × Nat) :=
 match o.guard with
 | none=>zol P call o.op ρ H nx
 |
  some (t,want)=>match grd want (ρ t) with
  | some true=>zol P call o.op ρ H nx
  | some false=>some (.tup [],H,nx)
  | none=>none
theorem zwR {call:zbj} (hs:call.Sound P) {o:AOper} {ρ ρ2:Nat→AV} (hl:∀ t∈o.looks,ρ2 t=ρ t) {H:AH} {nx:Nat} {r:AV × AH × Nat} (h:valX P call o ρ H nx=some r) {k:(Nat→AV)→AH→Nat→Prop} (hk:k (upd ρ2 o.dst r.1) r.2.1 r.2.2):ExF P false o ρ2 H nx k:=by
 have body:zol P call o.op ρ H nx=some r→zbF P false o.op ρ2 H nx (fun v H' nx'=>k (upd ρ2 o.dst v) H' nx'):=fun h=>by
  rw [zhm (P:=P) (fx:=false) (ρ':=ρ) fun t ht=>hl t (ziZ ht)]
  exact zpS hs h hk
 unfold valX at h
 unfold ExF
 cases hg:o.guard with
 | none=>rw [hg] at h;exact body h
 |
  some p =>
  obtain ⟨t,want⟩:=p
  rw [hg] at h
  simp only at h ⊢
  rw [hl t (zhb hg)]
  cases hw:grd want (ρ t) with
  | none=>rw [hw] at h;cases h
  |
   some b =>
   rw [hw] at h
   cases b with
   | true=>exact ⟨fun _=>body h,fun hf=>(by cases hf)⟩
   | false=>cases h;exact ⟨fun hf=>(by cases hf),fun _=>hk⟩
def seqV (P:Program) (call:zbj):List AOper→Kn→AH→Nat→Option (List (Nat × AV) × List (Nat × Nat) × Nat)
 | [],_,_,nx=>some ([],[],nx)
 |
  o::os,K,H,nx=>match valX P call o K.get H nx with
  |
   some (v,H',nx')=>match seqV P call os (setO K o.dst v) H' nx' with
   |
    some (vs,rs,top)=>some ((match o.dst with
    | some d=>(d,v)::vs
    | none=>vs),(nx,nx' - nx)::rs,top)
   | none=>none
  | none=>none
def zBj:List (List Nat)→List (List Nat)→List (List Nat)
 | acc,[]=>acc
 | acc,ds::r=>zBj (acc++[(ds++ds.flatMap fun d=>acc.getD d []).eraseDups]) r
def renV (ρ:Nat→Nat):Nat→AV→AV
 | 0,v=>v
 |
  d+1,v=>match v with
  | .ptr r q g i f=>.ptr (ρ r) q g i f
  | .own r q g off n=>.own (ρ r) q g off n
  | .fn f caps=>.fn f (caps.map (renV ρ d))
  | .agg l=>.agg (l.map (renV ρ d))
  | .tup l=>.tup (l.map (renV ρ d))
  | .mp r q=>.mp (ρ r) q
  | .it r=>.it (ρ r)
  | v=>v
def renH (ρ:Nat→Nat):AH→AH
 | []=>[]
 |
  (r,o)::t=>(ρ r,match o with
  | .row sz els g=>.row sz (els.map fun c=>c.map (renV ρ 30)) g
  | .fam sz ins=>.fam sz ins)::renH ρ t
abbrev STab:=List (List Nat × AH)
def zkM:STab→List Nat→AH
 | [],_=>[]
 | (S,H)::t,S'=>bif beqL S S' then H else zkM t S'
def zq5 (ops:List AOper) (A:List (List Nat)) (i:Nat):List Nat :=
 (List.range ops.length).filterMap fun j=>bif Nat.beq j i||memN (A.getD j []) i then (ops.getD j default).dst else none
def ztK (ops:List AOper) (A:List (List Nat)) (K0 Kf:Kn) (i:Nat):Kn:=zP Kf ((zq5 ops A i).map fun t=>(t,K0.get t))
def zBD (P:Program) (call:zbj) (ops:List AOper) (Ls:List Nat) (A:List (List Nat)) (K0 Kf:Kn) (rs:List (Nat × Nat)) (top:Nat) (S:List Nat) (H:AH):List Nat→STab→List (List Nat)→Option (STab × List (List Nat))
 | [],tab,todo=>some (tab,todo)
 |
  i::r,tab,todo =>
  bif zcd Ls A i S && !memS (tab.map (·.1)) (zhT Ls i S) then
   match valX P call (ops.getD i default) (ztK ops A K0 Kf i).get H top with
   | some (_,H',_)=>zBD P call ops Ls A K0 Kf rs top S H r (tab++[(zhT Ls i S,renH (fun x=>bif Nat.blt x top then x else x - top+(rs.getD i (0,0)).1) H')]) (todo++[zhT Ls i S])
   | none=>none
  else zBD P call ops Ls A K0 Kf rs top S H r tab todo
def growT (P:Program) (call:zbj) (ops:List AOper) (Ls:List Nat) (A:List (List Nat)) (K0 Kf:Kn) (rs:List (Nat × Nat)) (top:Nat):Nat→List (List Nat)→STab→Option STab
 | 0,_,tab=>some tab
 | _+1,[],tab=>some tab
 |
  n+1,S::todo,tab=>match zBD P call ops Ls A K0 Kf rs top S (zkM tab S) Ls tab todo with
  | some (tab',todo')=>growT P call ops Ls A K0 Kf rs top n todo' tab'
  | none=>none
def idS:Sg:=fun r=>some r
def dstB (σ:Sg) (Kf:Kn):Option Nat→AV→Bool
 | none,_=>true
 | some d,v=>vwB σ 30 v (Kf.get d)
def chkE (P:Program) (call:zbj) (ops:List AOper) (A:List (List Nat)) (K0 Kf:Kn) (rs:List (Nat × Nat)) (nx top:Nat) (tab:STab) (e:Nat × List Nat × List Nat):Bool :=
 match valX P call (ops.getD e.1 default) (ztK ops A K0 Kf e.1).get (zkM tab e.2.1) top with
 |
  some (v,H',_) =>
  bif (ops.getD e.1 default).fixed then dstB idS Kf (ops.getD e.1 default).dst v
  else Nat.ble nx (rs.getD e.1 (0,0)).1&&(Nat.ble ((rs.getD e.1 (0,0)).1+(rs.getD e.1 (0,0)).2) top &&
   (zyn (sgR (rs.getD e.1 (0,0)).1 (rs.getD e.1 (0,0)).2 top top) top H' (zkM tab e.2.2) &&
   (dstB (sgR (rs.getD e.1 (0,0)).1 (rs.getD e.1 (0,0)).2 top top) Kf (ops.getD e.1 default).dst v &&
   ((Kf.all fun p=>memN (zq5 ops A e.1) p.1||okB (sgR (rs.getD e.1 (0,0)).1 (rs.getD e.1 (0,0)).2 top top) 30 p.2) &&
   K0.all fun p=>okB (sgR (rs.getD e.1 (0,0)).1 (rs.getD e.1 (0,0)).2 top top) 30 p.2))))
 | none=>false
def planX (ops:List AOper) (Ls:List Nat) (A:List (List Nat)) (St:List (List Nat)):Plan :=
 (List.range ops.length).flatMap fun i =>
  bif memN Ls i then (St.filter (zcd Ls A i)).map fun S=>(i,S,zhT Ls i S)
  else bif (ops.getD i default).sees then (St.filter (zcd Ls A i)).map fun S=>(i,S,S)
  else ((St.filter (zcd Ls A i)).take 1).map fun S=>(i,S,S)
structure DR where
 Kf:Kn
 H:AH
 top:Nat
def zBE (ops:List AOper) (A:List (List Nat)) (i t:Nat):Bool :=
 ((A.getD i []).any fun j=>match (ops.getD j default).dst with | some d=>Nat.beq d t | none=>false) ||
 allB ops.length fun j=>match (ops.getD j default).dst with | some d => !Nat.beq d t||(Nat.beq j i||memN (A.getD j []) i) | none=>true
def zni (o:AOper):AOper:={ o with op:=bif o.fixed && !o.sees then .mov (.c .undef) else .mknil 0,guard:=none }
def zwY (ops:List AOper) (deps:List (List Nat)) (Ls:List Nat) (A:List (List Nat)) (St:List (List Nat)) (plan:Plan) (ks:List Nat):Bool :=
 zwJ (ops.map zni) deps Ls A St plan ks
def drawR (P:Program) (call:zbj) (ops:List AOper) (deps:List (List Nat)) (Ls:List Nat) (A:List (List Nat)) (vs:List (Nat × AV)) (rs:List (Nat × Nat)) (tab:STab) (K:Kn) (nx top:Nat):Option (Kn × AH × Nat) :=
 bif Nat.ble nx top&&(zwY ops deps Ls A (tab.map (·.1)) (planX ops Ls A (tab.map (·.1))) (vs.map (·.1))&&((allB ops.length fun i=>(ops.getD i default).looks.all (zBE ops A i))&&(planX ops Ls A (tab.map (·.1))).all (chkE P call ops A K (zP K vs) rs nx top tab)))
 then some (zP K vs,zkM tab Ls,top) else none
def zBu (P:Program) (call:zbj) (ops:List AOper) (deps:List (List Nat)) (K:Kn) (H:AH) (nx:Nat):Option (Kn × AH × Nat) :=
 match seqV P call ops K H nx with
 |
  some (vs,rs,top) =>
  match growT P call ops ((List.range ops.length).filter fun i => !(ops.getD i default).fixed) (zBj [] deps) K (zP K vs) rs top 5000 [[]] [([],H)] with
  | some tab0=>drawR P call ops deps ((List.range ops.length).filter fun i => !(ops.getD i default).fixed) (zBj [] deps) vs rs (([],H)::tab0.tail) K nx top
  | none=>none
 | none=>none
theorem zAr (H:AH) (ι:Inj):zc0 H idS.two ι=ι:=by
 funext r q g
 simp [zc0,Sg.two,idS]
theorem vr_id {w:World} {L:Nat→Prop} {ι:Inj} {H:AH} {nx:Nat} (rel:RelH w L ι H nx) {a b:AV} (h:Vw H H idS.two noD true a b) {v:Value} (hv:VR w (Lt L ι H) ι v a):VR w (Lt L ι H) ι v b:=by
 have:=h.sound rel (M:=Lt L ι H) (fun _ h=>h) (fun _ _ _ _ _ _ h=>h.elim) v hv
 rw [zAr] at this
 exact this
theorem RelH.up {w:World} {L:Nat→Prop} {ι:Inj} {H:AH} {nx nx':Nat} (rel:RelH w L ι H nx) (h:nx≤nx'):RelH w L ι H nx' :=
 ⟨rel.row,rel.apart,rel.out,fun r q g l hi=>Nat.lt_of_lt_of_le (rel.idx r q g l hi) h,fun r o hi=>Nat.lt_of_lt_of_le (rel.dom r o hi) h,rel.gen,rel.Lsz⟩
def vsD (ops:List AOper) (Kf:Kn) (l:List Bool):List (Nat × AV):=(List.range ops.length).filterMap fun i=>bif getB l i then (ops.getD i default).dst.map fun d=>(d,Kf.get d) else none
theorem zt4 {ops:List AOper} {Kf:Kn} {l:List Bool} {p:Nat × AV}:p∈vsD ops Kf l↔∃ i,i < ops.length∧getB l i=true∧(ops.getD i default).dst=some p.1∧p.2=Kf.get p.1:=by
 unfold vsD
 rw [List.mem_filterMap]
 constructor
 ·
  rintro ⟨i,hi,h⟩
  refine ⟨i,List.mem_range.1 hi,?_⟩
  cases hb:getB l i with
  | false=>rw [hb] at h;cases h
  |
   true =>
   rw [hb] at h
   obtain ⟨d,hd,rfl⟩:=Option.map_eq_some_iff.1 h
   exact ⟨rfl,hd,rfl⟩
 ·
  rintro ⟨i,hi,hb,h,he⟩
  exact ⟨i,List.mem_range.2 hi,by rw [hb,cond_true,h,Option.map_some,← he]⟩
theorem zkV:∀ {vs:List (Nat × AV)} {K:Kn} {t:Nat} {v:AV},(∀ p∈vs,p.1=t→p.2=v)→t∈vs.map (·.1)→(zP K vs).get t=v
 | [],_,_,_,_,h=>by simp at h
 |
  (d,u)::r,K,t,v,h,hm=>by
  rw [zP]
  by_cases hr:t∈r.map (·.1)
  · exact zkV (fun p hp=>h p (List.mem_cons_of_mem _ hp)) hr
  ·
   rw [zdV hr,Kn.get_set]
   simp only [List.map_cons,List.mem_cons] at hm
   rcases hm with hm | hm
   ·
    subst hm
    rw [if_pos rfl]
    exact h (t,u) (by simp) rfl
   · exact absurd hm hr
def zhU (ops:List AOper) (K0 Kf:Kn) (l:List Bool):Kn:=zP K0 (vsD ops Kf l)
theorem zgD {ops:List AOper} {K0 Kf:Kn} {l:List Bool} {i t:Nat} (hi:i < ops.length) (hb:getB l i=true) (hd:(ops.getD i default).dst=some t):(zhU ops K0 Kf l).get t=Kf.get t:=by
 unfold zhU
 refine zkV (fun p hp e=>?_) (List.mem_map.2 ⟨(t,Kf.get t),zt4.2 ⟨i,hi,hb,hd,rfl⟩,rfl⟩)
 obtain ⟨_,_,_,_,h⟩:=zt4.1 hp
 rw [h,e]
theorem zi6 {ops:List AOper} {K0 Kf:Kn} {l:List Bool} {t:Nat} (h:∀ i,i < ops.length→getB l i=true→(ops.getD i default).dst≠some t):(zhU ops K0 Kf l).get t=K0.get t:=by
 unfold zhU
 refine zdV fun hm=>?_
 obtain ⟨p,hp,e⟩:=List.mem_map.1 hm
 obtain ⟨i,hi,hb,hd,_⟩:=zt4.1 hp
 exact h i hi hb (by rw [hd,e])
theorem zn7 {ops:List AOper} {A:List (List Nat)} {i t:Nat} (h:t∈zq5 ops A i):∃ j,j < ops.length∧(j=i∨i∈A.getD j [])∧(ops.getD j default).dst=some t:=by
 unfold zq5 at h
 obtain ⟨j,hj,h⟩:=List.mem_filterMap.1 h
 refine ⟨j,List.mem_range.1 hj,?_⟩
 cases hb:Nat.beq j i||memN (A.getD j []) i with
 | false=>rw [hb] at h;cases h
 |
  true =>
  rw [hb] at h
  refine ⟨?_,h⟩
  rcases Bool.or_eq_true_iff.1 hb with hb | hb
  · exact .inl (zj hb)
  · exact .inr ((zN _ _).1 hb)
theorem Kn.get_mem {K:Kn} {t:Nat}:K.get t=.undef∨(t,K.get t)∈K:=by
 induction K with
 | nil=>exact .inl rfl
 |
  cons p r ih =>
  obtain ⟨j,u⟩:=p
  simp only [Kn.get]
  cases hb:Nat.beq j t with
  | true=>rw [zj hb];exact .inr (by simp)
  |
   false =>
   rcases ih with h | h
   · exact .inl h
   · exact .inr (List.mem_cons_of_mem _ h)
theorem zwl {ops:List AOper} {A:List (List Nat)} {K0 Kf:Kn} {i t:Nat} (h:t∈zq5 ops A i):(ztK ops A K0 Kf i).get t=K0.get t:=by
 unfold ztK
 refine zkV (fun p hp e=>?_) ?_
 ·
  obtain ⟨x,_,rfl⟩:=List.mem_map.1 hp
  simp only at e
  subst e
  rfl
 ·
  rw [List.map_map]
  exact List.mem_map.2 ⟨t,h,rfl⟩
theorem zue {ops:List AOper} {A:List (List Nat)} {K0 Kf:Kn} {i t:Nat} (h:t∉zq5 ops A i):(ztK ops A K0 Kf i).get t=Kf.get t:=by
 unfold ztK
 refine zdV fun hm=>?_
 rw [List.map_map] at hm
 obtain ⟨x,hx,rfl⟩:=List.mem_map.1 hm
 exact h hx
theorem zAD {ops:List AOper} {A:List (List Nat)} {i j t:Nat} (hj:j < ops.length) (h:j=i∨i∈A.getD j []) (hd:(ops.getD j default).dst=some t):t∈zq5 ops A i:=by
 unfold zq5
 refine List.mem_filterMap.2 ⟨j,List.mem_range.2 hj,?_⟩
 have:(Nat.beq j i||memN (A.getD j []) i)=true:=by
  rcases h with h | h
  · rw [h,zaA];rfl
  · rw [(zN _ _).2 h,Bool.or_true]
 rw [this]
 exact hd
structure DOk (ops:List AOper) (deps:List (List Nat)) (Ls:List Nat) (A:List (List Nat)) (St:List (List Nat)) (plan:Plan) (ks:List Nat):Prop where
 low:∀ (i:Nat),i < ops.length→∀ j∈deps.getD i [],j < i
 clo:∀ (i:Nat),i < ops.length→∀ j∈A.getD i [],j∈deps.getD i []∨∃ d∈deps.getD i [],j∈A.getD d []
 one:∀ (i j d:Nat),i < ops.length→j < ops.length→(ops.getD i default).dst=some d→(ops.getD j default).dst=some d→i=j
 keys:∀ k∈ks,∃ j,j < ops.length∧(ops.getD j default).dst=some k
 look:∀ (i:Nat),i < ops.length→∀ t∈(ops.getD i default).looks,(∃ j∈A.getD i [],(ops.getD j default).dst=some t)∨∀ j,j < ops.length→(ops.getD j default).dst=some t→j=i∨i∈A.getD j []
 lin:∀ i∈Ls,i < ops.length
 st0:[]∈St
 stc:∀ S∈St,∀ i∈Ls,zcd Ls A i S=true→zhT Ls i S∈St
 plan:∀ (i:Nat),i < ops.length→((ops.getD i default).fixed=true∧(ops.getD i default).sees=false∧i∉Ls∧anyP plan i=true) ∨
  (i∉Ls∧∀ S∈St,zcd Ls A i S=true→memP plan i S S=true)∨(i∈Ls∧∀ S∈St,zcd Ls A i S=true→memP plan i S (zhT Ls i S)=true)
theorem zoR {ops:List AOper} {i:Nat} (hi:i < ops.length):(ops.map zni).getD i default=zni (ops.getD i default):=by
 rw [List.getD_eq_getElem?_getD,List.getElem?_map,List.getD_eq_getElem?_getD,List.getElem?_eq_getElem hi]
 rfl
theorem zjV {ops:List AOper} {i:Nat}:((ops.map zni).getD i default).dst=(ops.getD i default).dst:=by
 by_cases hi:i < ops.length
 · rw [zoR hi];rfl
 · rw [List.getD_eq_getElem?_getD,List.getElem?_eq_none (by rw [List.length_map];omega),List.getD_eq_getElem?_getD,List.getElem?_eq_none (by omega)]
theorem dok_of {ops:List AOper} {deps:List (List Nat)} {Ls:List Nat} {A:List (List Nat)} {St:List (List Nat)} {plan:Plan} {ks:List Nat} (h:zwY ops deps Ls A St plan ks=true) (h2:(allB ops.length fun i=>(ops.getD i default).looks.all (zBE ops A i))=true):DOk ops deps Ls A St plan ks:=by
 have ok:=zxN h
 have hl:(ops.map zni).length=ops.length:=List.length_map _
 refine ⟨fun i hi=>ok.low i (by omega),fun i hi=>ok.clo i (by omega),fun i j d hi hj h1 h2=>ok.one i j d (by omega) (by omega) (by rw [zjV];exact h1) (by rw [zjV];exact h2),fun k hk=>?_,fun i hi t ht=>?_,fun i hi=>by have:=ok.lin i hi;omega,ok.st0,ok.stc,fun i hi=>?_⟩
 ·
  obtain ⟨o,ho,hd⟩:=ok.keys k hk
  obtain ⟨j,hj,he⟩:=List.mem_iff_getElem.1 ho
  refine ⟨j,by omega,?_⟩
  rw [← zjV,List.getD_eq_getElem?_getD,List.getElem?_eq_getElem hj,he]
  exact hd
 ·
  have:=List.all_eq_true.1 (zaa h2 hi) t ht
  unfold zBE at this
  rcases Bool.or_eq_true_iff.1 this with this | this
  ·
   obtain ⟨j,hj,hd⟩:=List.any_eq_true.1 this
   refine .inl ⟨j,hj,?_⟩
   cases e:(ops.getD j default).dst with
   | none=>rw [e] at hd;cases hd
   | some d=>rw [e] at hd;rw [zj hd]
  ·
   refine .inr fun j hj hd=>?_
   have:=zaa this hj
   rw [hd] at this
   simp only [zaA,Bool.not_true,Bool.false_or,Bool.or_eq_true] at this
   rcases this with this | this
   · exact .inl (zj this)
   · exact .inr ((zN _ _).1 this)
 ·
  rcases ok.plan i (by omega) with ⟨h1,h2,h3,h4⟩ | h | h
  ·
   rw [zoR hi] at h1 h2
   refine .inl ⟨?_,?_,h3,h4⟩
   ·
    cases hf:(ops.getD i default).fixed with
    | true=>rfl
    | false=>unfold zni at h1;rw [hf] at h1;cases h1
   ·
    cases hs:(ops.getD i default).sees with
    | false=>rfl
    | true=>unfold zni at h1;rw [hs,Bool.not_true,Bool.and_false] at h1;cases h1
  · exact .inr (.inl h)
  · exact .inr (.inr h)
theorem zkD {ops:List AOper} {deps:List (List Nat)} {Ls:List Nat} {A:List (List Nat)} {St:List (List Nat)} {plan:Plan} {ks:List Nat} (ok:DOk ops deps Ls A St plan ks) {l:List Bool}
  (hc:∀ i,i < ops.length→getB l i=true→∀ j∈deps.getD i [],getB l j=true):∀ (i:Nat),i < ops.length→(∀ j∈deps.getD i [],getB l j=true)→∀ j∈A.getD i [],getB l j=true:=by
 intro i
 induction i using Nat.strongRecOn with
 |
  _ i ih =>
  intro hi hd j hj
  rcases ok.clo i hi j hj with h | ⟨d,h1,h2⟩
  · exact hd j h
  ·
   have hlt:=ok.low i hi d h1
   exact ih d hlt (by omega) (hc d (by omega) (hd d h1)) j h2
structure DX (P:Program) (call:zbj) (ops:List AOper) (deps:List (List Nat)) (Ls:List Nat) (A:List (List Nat)) (St:List (List Nat)) (plan:Plan) (ks:List Nat) (K0 Kf:Kn) (rs:List (Nat × Nat)) (nx top:Nat) (tab:STab):Prop where
 ok:DOk ops deps Ls A St plan ks
 chk:∀ e∈plan,chkE P call ops A K0 Kf rs nx top tab e=true
 lsF:∀ i,i∈Ls→(ops.getD i default).fixed=false
 lsT:∀ i,i < ops.length→i∉Ls→(ops.getD i default).fixed=true
theorem zuR:∀ {l:Plan} {a:Nat},anyP l a=true→∃ S,(a,S,S)∈l
 | [],_,h=>by cases h
 |
  (i,k,k')::r,a,h=>by
  simp only [anyP,Bool.or_eq_true,Bool.and_eq_true] at h
  rcases h with ⟨h1,h2⟩ | h
  · rw [← zj h1,← zeg h2];exact ⟨k,by simp⟩
  ·
   obtain ⟨S,hS⟩:=zuR h
   exact ⟨S,List.mem_cons_of_mem _ hS⟩
theorem zpJ:∀ {l:Plan} {a:Nat} {b c:List Nat},memP l a b c=true→(a,b,c)∈l
 | [],_,_,_,h=>by cases h
 |
  (i,k,k')::r,a,b,c,h=>by
  simp only [memP,Bool.or_eq_true,Bool.and_eq_true] at h
  rcases h with ⟨h1,h2,h3⟩ | h
  · rw [← zj h1,← zeg h2,← zeg h3];simp
  · exact List.mem_cons_of_mem _ (zpJ h)
theorem zsI {K:Kn} {d:Option Nat} {v:AV} {t:Nat} (h:d≠some t):(setO K d v).get t=K.get t:=by
 rw [zkq]
 exact zks h
theorem zsQ {K:Kn} {d:Option Nat} {v:AV} {t:Nat} (h:d=some t):(setO K d v).get t=v:=by
 subst h
 simp [setO,Kn.get_set]
theorem upd_eq {ρ:Nat→AV} {d:Option Nat} {v:AV} {t:Nat} (h:d=some t):upd ρ d v t=v:=by
 subst h
 simp [upd]
theorem DX.sound {call:zbj} (hs:call.Sound P) {nt:Nat} {w0:World} {L:Nat→Prop} {ι0:Inj} {H0:AH} {B:Nat} (base:RelH w0 L ι0 H0 B) {id:Nat} {ops:Array Oper} {bs:List AOper} (hlen:bs.length=ops.size)
  (hrel:∀ (i:Nat) (o:Oper) (ao:AOper),ops.toList[i]? = some o→bs[i]? = some ao→OpRel P nt ops o ao) (hfol:P.follows .mixedOrders=true)
  {Ls:List Nat} {A St:List (List Nat)} {plan:Plan} {vs:List (Nat × AV)} {rs:List (Nat × Nat)} {tab:STab} {K:Kn} {H:AH} {nx top:Nat} (htop:nx≤top) (htab:zkM tab []=H)
  (dx:DX P call bs (ops.toList.map zcr) Ls A St plan (vs.map (·.1)) K (zP K vs) rs nx top tab) {w:World} {ι:Inj} {a:Act} (hin:In nt w0 L ι0 H0 B w ι K.get H nx a) {Q:QT} (hq:Q .normal (zP K vs) (zkM tab Ls) top) :
  (Code.region id ops true).wp P (QQ nt w0 L ι0 H0 B Q) a w:=by
 obtain ⟨ok,hchk,hlsF,hlsT⟩:=dx
 have hBnx:=hin.le
 refine wp_region_any hfol ?_
 have main:=zxI (P:=P) (Qc:=QQ nt w0 L ι0 H0 B Q) hlen (fun l a w=>∃ ι,In nt w0 L ι0 H0 B w ι (zhU bs K (zP K vs) l).get (zkM tab (Ls.filter (getB l))) top a∧(∀ i,i < bs.length→getB l i=true→∀ j∈(ops.toList.map zcr).getD i [],getB l j=true)∧Ls.filter (getB l)∈St) ?_ ?_ bs.length (List.replicate bs.length false) a { w with drawn:=w.drawn+1 } (by simp) (by
  have:∀ n,zeA (List.replicate n false)=n:=fun n=>by
   induction n with
   | zero=>rfl
   | succ n ih=>rw [List.replicate_succ,zeA,ih];simp;omega
  rw [this]
  exact Nat.le_refl _) ?_
 ·
  rw [hlen] at main
  simpa using main
 ·
  rintro l a w hl ⟨ι,hin,hclo,hst⟩ hnone
  have hall:∀ i,i < bs.length→getB l i=true:=by
   intro i
   induction i using Nat.strongRecOn with
   |
    _ i ih =>
    intro hi
    have:=hnone i hi
    cases hb:getB l i with
    | true=>rfl
    |
     false =>
     have hr:zaj (ops.toList.map zcr) l i=true:=zag.2 ⟨hb,fun j hj=>ih j (ok.low i hi j hj) (by have:=ok.low i hi j hj;omega)⟩
     rw [this] at hr
     cases hr
  have hcnt:Ls.filter (getB l)=Ls:=List.filter_eq_self.2 (fun m hm=>hall m (ok.lin m hm))
  rw [hcnt] at hin
  have e:(zhU bs K (zP K vs) l).get=(zP K vs).get:=funext fun t=>by
   by_cases h:∃ i,i < bs.length∧(bs.getD i default).dst=some t
   ·
    obtain ⟨i,hi,hd⟩:=h
    exact zgD hi (hall i hi) hd
   ·
    rw [zi6 fun i hi _ hd=>h ⟨i,hi,hd⟩]
    exact (zdV fun hk=>h (ok.keys t hk)).symm
  rw [e] at hin
  exact ⟨ι,_,_,_,hin,hq⟩
 ·
  rintro l i a w hl hi hr ⟨ι,hin,hclo,hst⟩ o ho
  obtain ⟨hun,hdeps⟩:=zag.1 hr
  have hA:=zkD ok hclo i hi hdeps
  have hlt:∀ j,getB l j=true→j < bs.length:=fun j hj=>by
   apply Classical.byContradiction
   intro hcon
   unfold getB at hj
   rw [List.getD_eq_getElem?_getD,List.getElem?_eq_none (by omega)] at hj
   cases hj
  have hgetD:∀ {t:Nat} {o:AOper},o∈bs→o.dst=some t→∃ j,j < bs.length∧(bs.getD j default).dst=some t:=fun {t o} ho hd=>by
   obtain ⟨j,hj,he⟩:=List.mem_iff_getElem.1 ho
   exact ⟨j,hj,by rw [List.getD_eq_getElem?_getD,List.getElem?_eq_getElem hj,he];exact hd⟩
  have hcomp:zcd Ls A i (Ls.filter (getB l))=true:=by
   unfold zcd
   simp only [Bool.and_eq_true,Bool.not_eq_true',List.all_eq_true,Bool.or_eq_true]
   refine ⟨?_,fun m hm=>?_,fun m hm=>?_⟩
   ·
    cases hb:memN (Ls.filter (getB l)) i with
    | false=>rfl
    |
     true =>
     have:=(List.mem_filter.1 ((zN _ _).1 hb)).2
     rw [hun] at this
     cases this
   ·
    cases hb:memN (A.getD i []) m with
    | false=>exact .inl rfl
    | true=>exact .inr ((zN _ _).2 (List.mem_filter.2 ⟨hm,hA m ((zN _ _).1 hb)⟩))
   ·
    obtain ⟨hmL,hml⟩:=List.mem_filter.1 hm
    cases hb:memN (A.getD m []) i with
    | false=>rfl
    |
     true =>
     have:=zkD ok hclo m (ok.lin m hmL) (hclo m (ok.lin m hmL) hml) i ((zN _ _).1 hb)
     rw [hun] at this
     cases this
  have hlk:∀ t∈(bs.getD i default).looks,(zhU bs K (zP K vs) l).get t=(ztK bs A K (zP K vs) i).get t:=fun t ht=>by
   rcases ok.look i hi t ht with ⟨j,hj,hd⟩ | h
   ·
    have hdone:=hA j hj
    have hjn:=hlt j hdone
    rw [zgD hjn hdone hd,zue fun hf=>?_]
    obtain ⟨j',hj',hc,hd'⟩:=zn7 hf
    have:=ok.one j' j t hj' hjn hd' hd
    subst this
    rcases hc with hc | hc
    · subst hc;rw [hun] at hdone;cases hdone
    ·
     have:=zkD ok hclo j' hjn (hclo j' hjn hdone) i hc
     rw [hun] at this
     cases this
   ·
    rw [zi6 fun j hj hb hd=>?_]
    ·
     by_cases he:∃ j,j < bs.length∧(bs.getD j default).dst=some t
     ·
      obtain ⟨j,hj,hd⟩:=he
      rw [zwl (zAD hj (h j hj hd) hd)]
     ·
      rw [zue fun hf=>(by obtain ⟨j,hj,_,hd⟩:=zn7 hf;exact he ⟨j,hj,hd⟩)]
      exact (zdV fun hk=>he (ok.keys t hk)).symm
    ·
     rcases h j hj hd with hc | hc
     · subst hc;rw [hun] at hb;cases hb
     ·
      have:=zkD ok hclo j hj (hclo j hj hb) i hc
      rw [hun] at this
      cases this
  have hclo':∀ j,j < bs.length→getB (l.set i true) j=true→∀ m∈(ops.toList.map zcr).getD j [],getB (l.set i true) m=true:=by
   intro j hj hjl m hm
   rw [zdq (by omega)] at hjl ⊢
   by_cases hmi:m=i
   · rw [if_pos hmi]
   ·
    rw [if_neg hmi]
    by_cases hji:j=i
    · subst hji;exact hdeps m hm
    · rw [if_neg hji] at hjl;exact hclo j hj hjl m hm
  have hset:∀ j,getB (l.set i true) j=if j=i then true else getB l j:=fun j=>zdq (by omega)
  have hsame:∀ t,(bs.getD i default).dst≠some t→(zhU bs K (zP K vs) (l.set i true)).get t=(zhU bs K (zP K vs) l).get t:=fun t ht=>by
   by_cases h:∃ j,j < bs.length∧getB l j=true∧(bs.getD j default).dst=some t
   ·
    obtain ⟨j,hj,hb,hd⟩:=h
    rw [zgD hj hb hd,zgD hj (by rw [hset];split<;>first | rfl | exact hb) hd]
   ·
    rw [zi6 fun j hj hb hd=>h ⟨j,hj,hb,hd⟩,zi6 fun j hj hb hd=>?_]
    rw [hset] at hb
    by_cases e:j=i
    · subst e;exact ht hd
    · rw [if_neg e] at hb;exact h ⟨j,hj,hb,hd⟩
  have hself:∀ t,(bs.getD i default).dst=some t→(zhU bs K (zP K vs) (l.set i true)).get t=(zP K vs).get t:=fun t ht=>zgD hi (by rw [hset,if_pos rfl]) ht
  have notin:i∉Ls→Ls.filter (getB (l.set i true))=Ls.filter (getB l):=fun hni=>by
   refine List.filter_congr fun m hm=>?_
   rw [zdq (by omega),if_neg (fun e:m=i=>hni (by rw [← e];exact hm))]
  have hro:=hrel i o (bs.getD i default) (by simp [ho]) (by rw [List.getD_eq_getElem?_getD,List.getElem?_eq_getElem hi];rfl)
  have entry:∃ e∈plan,e.1=i∧((i∉Ls∧((bs.getD i default).sees=false∨e.2.1=Ls.filter (getB l)))∨(i∈Ls∧e.2.1=Ls.filter (getB l)∧e.2.2=Ls.filter (getB (l.set i true))∧Ls.filter (getB (l.set i true))∈St)):=by
   rcases ok.plan i hi with ⟨hf,hse,hni,ha⟩ | ⟨hni,hk⟩ | ⟨hin',hk⟩
   ·
    obtain ⟨S,hS⟩:=zuR ha
    exact ⟨_,hS,rfl, .inl ⟨hni, .inl hse⟩⟩
   · exact ⟨_,zpJ (hk _ hst hcomp),rfl, .inl ⟨hni, .inr rfl⟩⟩
   ·
    have hnx:zhT Ls i (Ls.filter (getB l))=Ls.filter (getB (l.set i true)):=by
     unfold zhT
     refine List.filter_congr fun m hm=>?_
     rw [zdq (by omega)]
     by_cases hmi:m=i
     · subst hmi;simp [zaA]
     ·
      rw [if_neg hmi,zcC hmi,Bool.false_or]
      cases hb:getB l m with
      | true=>exact (zN _ _).2 (List.mem_filter.2 ⟨hm,hb⟩)
      |
       false =>
       cases hb2:memN (Ls.filter (getB l)) m with
       | false=>rfl
       |
        true =>
        have:=(List.mem_filter.1 ((zN _ _).1 hb2)).2
        rw [hb] at this
        cases this
    have h2:=ok.stc _ hst i hin' hcomp
    rw [hnx] at h2
    exact ⟨_,zpJ (hk _ hst hcomp),rfl, .inr ⟨hin',rfl,hnx,h2⟩⟩
  obtain ⟨e,hep,he1,hcase⟩:=entry
  have hc:=hchk e hep
  unfold chkE at hc
  rw [he1] at hc
  split at hc
  ·
   rename_i v H' nx' hv
   rcases hcase with ⟨hni,hsee⟩ | ⟨hil,hS,hS',hst'⟩
   ·
    have hf:=hlsT i hi hni
    rw [hf] at hc
    simp only [cond_true] at hc
    have hex0:ExF P false (bs.getD i default) (zhU bs K (zP K vs) l).get (zkM tab e.2.1) top (fun ρ' _ _=>ρ'=upd (zhU bs K (zP K vs) l).get (bs.getD i default).dst v):=zwR hs hlk hv rfl
    obtain ⟨v1,hy,hv1⟩:=zko hf hex0
    have hy':Yld P (bs.getD i default) (zhU bs K (zP K vs) l).get (zkM tab (Ls.filter (getB l))) top v1:=by
     rcases hsee with hse | hse
     · exact zqa hse hy
     · rw [← hse];exact hy
    have hex:ExF P false (bs.getD i default) (zhU bs K (zP K vs) l).get (zkM tab (Ls.filter (getB l))) top (fun ρ' H2 nx2=>ρ'=upd (zhU bs K (zP K vs) l).get (bs.getD i default).dst v∧H2=zkM tab (Ls.filter (getB l))∧nx2=top):=zin hy' ⟨hv1,rfl,rfl⟩
    refine zkG hro hin hex fun w' ι' ρ' H2 nx2 a' hin' ⟨e1,e2,e3⟩=>?_
    subst e1 e2 e3
    refine ⟨ι',?_,hclo',by rw [notin hni];exact hst⟩
    rw [notin hni]
    refine ⟨hin'.size,hin'.defers,hin'.st,hin'.le,fun t=>?_⟩
    by_cases hd:(bs.getD i default).dst=some t
    ·
     have h1:=hin'.kn t
     rw [upd_eq hd] at h1
     rw [hd] at hc
     rw [hself t hd]
     exact vr_id hin'.st.rel (zuP 30 _ _ hc) h1
    ·
     have h1:=hin'.kn t
     rw [zks hd] at h1
     rw [hsame t hd]
     exact h1
   ·
    have hf:=hlsF i hil
    rw [hf] at hc
    simp only [cond_false,Bool.and_eq_true] at hc
    obtain ⟨hc1,hc2,hc3,hc4,hc5,hc6⟩:=hc
    rw [hS] at hv
    rw [hS'] at hc3
    have hex:ExF P false (bs.getD i default) (zhU bs K (zP K vs) l).get (zkM tab (Ls.filter (getB l))) top (fun ρ' H2 nx2=>ρ'=upd (zhU bs K (zP K vs) l).get (bs.getD i default).dst v∧H2=H'∧nx2=nx'):=zwR hs hlk hv ⟨rfl,rfl,rfl⟩
    refine zkG hro hin hex fun w' ι' ρ' H2 nx2 a' hin' ⟨e1,e2,e3⟩=>?_
    subst e1 e2 e3
    have hB:=hin.le
    have hlo:=bleT hc1
    have hle:=bleT hc2
    have vw:=zAU (B:=B) (top:=top) (nx2:=top) (H:=H2) (H2:=zkM tab (Ls.filter (getB (l.set i true)))) (Nat.le_trans hBnx hlo) hB hB hle hc3
    rw [← zkq] at hin'
    obtain ⟨ι2,hin2⟩:=hin'.ent base (K2:=zhU bs K (zP K vs) (l.set i true)) (Ent.view _ _ vw fun t=>by
     by_cases hd:(bs.getD i default).dst=some t
     ·
      rw [zsQ hd,hself t hd]
      rw [hd] at hc4
      exact zuP 30 _ _ hc4
     ·
      rw [zsI hd,hsame t hd]
      by_cases h:∃ j,j < bs.length∧getB l j=true∧(bs.getD j default).dst=some t
      ·
       obtain ⟨j,hj,hb,hdj⟩:=h
       rw [zgD hj hb hdj]
       rcases Kn.get_mem (K:=zP K vs) (t:=t) with h | h
       · rw [h];exact .undef _ _
       ·
        have:=List.all_eq_true.1 hc5 _ h
        rcases Bool.or_eq_true_iff.1 this with h2 | h2
        ·
         exfalso
         obtain ⟨j',hj',hji,hdj'⟩:=zn7 ((zN _ _).1 h2)
         have:=ok.one j' j t hj' hj hdj' hdj
         subst this
         rcases hji with hji | hji
         · subst hji;exact hd hdj
         ·
          have:=zkD ok hclo j' hj (hclo j' hj hb) i hji
          rw [hun] at this
          cases this
        · exact zxr 30 _ h2
      ·
       rw [zi6 fun j hj hb hdj=>h ⟨j,hj,hb,hdj⟩]
       rcases Kn.get_mem (K:=K) (t:=t) with h | h
       · rw [h];exact .undef _ _
       · exact zxr 30 _ (List.all_eq_true.1 hc6 _ h))
    exact ⟨ι2,hin2,hclo',hst'⟩
  · cases hc
 ·
  refine ⟨ι,?_,fun i hi h=>?_,?_⟩
  ·
   have h0:Ls.filter (getB (List.replicate bs.length false))=[]:=by
    rw [List.filter_eq_nil_iff]
    intro i _
    have:getB (List.replicate bs.length false) i=false:=by
     unfold getB
     rw [List.getD_eq_getElem?_getD,List.getElem?_replicate]
     split<;>rfl
    rw [this]
    simp
   rw [h0,htab]
   have hd:=hin.drewW
   refine ⟨hd.size,hd.defers,⟨hd.st.ext,hd.st.inj,hd.st.rel.up htop,hd.st.lv⟩,Nat.le_trans hd.le htop,fun t=>?_⟩
   rw [zi6 fun i hi hb _=>?_]
   · exact hd.kn t
   ·
    have:getB (List.replicate bs.length false) i=false:=by
     unfold getB
     rw [List.getD_eq_getElem?_getD,List.getElem?_replicate]
     split<;>rfl
    rw [this] at hb
    cases hb
  ·
   have:getB (List.replicate bs.length false) i=false:=by
    unfold getB
    rw [List.getD_eq_getElem?_getD,List.getElem?_replicate]
    split<;>rfl
   rw [this] at h
   cases h
  ·
   have h0:Ls.filter (getB (List.replicate bs.length false))=[]:=by
    rw [List.filter_eq_nil_iff]
    intro i _
    have:getB (List.replicate bs.length false) i=false:=by
     unfold getB
     rw [List.getD_eq_getElem?_getD,List.getElem?_replicate]
     split<;>rfl
    rw [this]
    simp
   rw [h0]
   exact ok.st0
theorem zzJ {call:zbj} (hs:call.Sound P) {nt:Nat} {w0:World} {L:Nat→Prop} {ι0:Inj} {H0:AH} {B:Nat} (base:RelH w0 L ι0 H0 B) {id:Nat} {ops:Array Oper} {bs:List AOper} (hlen:bs.length=ops.size)
  (hrel:∀ (i:Nat) (o:Oper) (ao:AOper),ops.toList[i]? = some o→bs[i]? = some ao→OpRel P nt ops o ao) (hfol:P.follows .mixedOrders=true)
  {K:Kn} {H:AH} {nx:Nat} {w:World} {ι:Inj} {a:Act} (hin:In nt w0 L ι0 H0 B w ι K.get H nx a) {r:Kn × AH × Nat} (h:zBu P call bs (ops.toList.map zcr) K H nx=some r) {Q:QT} (hq:Q .normal r.1 r.2.1 r.2.2) :
  (Code.region id ops true).wp P (QQ nt w0 L ι0 H0 B Q) a w:=by
 unfold zBu at h
 split at h
 ·
  rename_i vs rs top _
  split at h
  ·
   rename_i tab htab
   unfold drawR at h
   generalize hb:(Nat.ble nx top&&_)=b at h
   cases b with
   | false=>cases h
   |
    true =>
    simp only [cond_true,Option.some.injEq] at h
    subst h
    simp only [Bool.and_eq_true] at hb
    obtain ⟨h1,h3,h5,h4⟩:=hb
    refine DX.sound hs base hlen hrel hfol (bleT h1) rfl ⟨dok_of h3 h5,fun e he=>List.all_eq_true.1 h4 e he,fun i hi=>?_,fun i hi hni=>?_⟩ hin hq
    ·
     have:=(List.mem_filter.1 hi).2
     simpa using this
    ·
     cases hf:(bs.getD i default).fixed with
     | true=>rfl
     | false=>exact (hni (List.mem_filter.2 ⟨List.mem_range.2 hi,by rw [hf];rfl⟩)).elim
  · cases h
 · cases h
end
def zm8 (nx:Nat):Nat→AV→List Nat
 | 0,_=>[]
 |
  d+1,v=>match v with
  | .own r _ _ _ _=>bif Nat.blt r nx then [] else [r]
  | .ptr r _ _ _ _=>bif Nat.blt r nx then [] else [r]
  | .mp r _=>bif Nat.blt r nx then [] else [r]
  | .it r=>bif Nat.blt r nx then [] else [r]
  | .agg l=>l.flatMap (zm8 nx d)
  | .tup l=>l.flatMap (zm8 nx d)
  | .fn _ l=>l.flatMap (zm8 nx d)
  | _=>[]
def znf (nx:Nat):List AV→List Nat→List Nat
 | [],acc=>acc
 |
  v::t,acc=>match v with
  | .int _ _=>znf nx t acc
  | .sl _ _ _=>znf nx t acc
  | .nilsl=>znf nx t acc
  | v=>znf nx t (zm8 nx 30 v++acc)
def zsJ (nx:Nat):List (List AV)→List Nat→List Nat
 | [],acc=>acc
 | c::t,acc=>zsJ nx t (znf nx c acc)
def zx9 (nx:Nat):Option AObj→List Nat→List Nat
 | some (.row _ els _),acc=>zsJ nx els acc
 | some (.fam _ ins),acc=>ins.foldl (fun acc p=>zsJ nx p.1 acc) acc
 | none,acc=>acc
def zyG (nx:Nat) (H:AH):Nat→List Nat→Nat→Nat
 | 0,_,seen=>seen
 | _+1,[],seen=>seen
 | n+1,r::todo,seen=>bif Nat.testBit seen r then zyG nx H n todo seen else zyG nx H n (zx9 nx (H.look r) todo) (Nat.lor seen (Nat.shiftLeft 1 r))
def oldR (nx:Nat):AH→List Nat→List Nat
 | [],acc=>acc
 | (r,o)::t,acc=>bif Nat.blt r nx then oldR nx t (zx9 nx (some o) acc) else oldR nx t acc
def zBM (nx:Nat) (v:AV) (H:AH):Nat:=zyG nx H 3000 (oldR nx H (zm8 nx 30 v)) 0
def AH.keepM (nx m:Nat):AH→AH
 | []=>[]
 | (r,o)::t=>bif Nat.blt r nx||Nat.testBit m r then (r,o)::AH.keepM nx m t else AH.keepM nx m t
theorem AH.look_keepM (nx m:Nat) (H:AH) (r:Nat):(H.keepM nx m).look r=bif Nat.blt r nx||Nat.testBit m r then H.look r else none:=by
 induction H with
 | nil=>simp only [AH.keepM,AH.look];cases (Nat.blt r nx||Nat.testBit m r)<;>rfl
 |
  cons p t ih =>
  obtain ⟨j,o⟩:=p
  simp only [AH.keepM]
  cases hm:(Nat.blt j nx||Nat.testBit m j) with
  |
   true =>
   simp only [cond_true,AH.look,ih]
   cases hb:Nat.beq j r with
   | true=>rw [← zj hb,hm];rfl
   | false=>rfl
  |
   false =>
   simp only [cond_false,ih,AH.look]
   cases hb:Nat.beq j r with
   | true=>rw [← zj hb,hm];rfl
   | false=>rfl
theorem AH.get_keepM (nx m:Nat) (H:AH) (r q:Nat):(H.keepM nx m).get r q=bif Nat.blt r nx||Nat.testBit m r then H.get r q else none:=by
 unfold AH.get
 rw [AH.look_keepM]
 cases (Nat.blt r nx||Nat.testBit m r)<;>rfl
def gcH (nx:Nat) (v:AV) (H:AH) (nx':Nat):AH:=bif Nat.ble nx' (nx+4) then H else H.keepM nx (zBM nx v H)
theorem zBt {nx:Nat} {v:AV} {H:AH} {nx' r q:Nat} {o:AObj} (h:(gcH nx v H nx').get r q=some o):H.get r q=some o:=by
 unfold gcH at h
 cases hb:Nat.ble nx' (nx+4) with
 | true=>rw [hb] at h;exact h
 |
  false =>
  rw [hb] at h
  simp only [cond_false,AH.get_keepM] at h
  cases hm:(Nat.blt r nx||Nat.testBit (zBM nx v H) r) with
  | true=>rw [hm] at h;exact h
  | false=>rw [hm] at h;cases h
theorem zzP {nx:Nat} {v:AV} {H:AH} {nx' r:Nat} {o:AObj} (h:(gcH nx v H nx').look r=some o):H.look r=some o:=by
 unfold gcH at h
 cases hb:Nat.ble nx' (nx+4) with
 | true=>rw [hb] at h;exact h
 |
  false =>
  rw [hb] at h
  simp only [cond_false,AH.look_keepM] at h
  cases hm:(Nat.blt r nx||Nat.testBit (zBM nx v H) r) with
  | true=>rw [hm] at h;exact h
  | false=>rw [hm] at h;cases h
section
variable {P:Program}
theorem RelH.sub {w:World} {L:Nat→Prop} {ι:Inj} {H H':AH} {nx:Nat} (rel:RelH w L ι H nx) (hg:∀ r q o,H'.get r q=some o→H.get r q=some o) (hd:∀ r o,H'.look r=some o→r < nx) :
  (∀ b,live ι H' b→live ι H b)∧RelH w L ι H' nx:=by
 have hl:∀ b,live ι H' b→live ι H b:=fun b ⟨r,q,sz,els,g,l,h1,h2,h3,h4⟩=>⟨r,q,sz,els,g,l,hg _ _ _ h1,h2,h3,h4⟩
 have hLt:∀ b,Lt L ι H' b→Lt L ι H b:=fun b h=>h.elim .inl fun h=>.inr (hl b h)
 refine ⟨hl,fun r q sz els g h=>?_,fun r1 q1 r2 q2 s1 e1 g1 l1 s2 e2 g2 l2 h1 h2=>rel.apart _ _ _ _ _ _ _ _ _ _ _ _ (hg _ _ _ h1) (hg _ _ _ h2),fun b hb=>rel.out b (hl b hb),rel.idx,hd,fun r q sz els g h=>rel.gen _ _ _ _ _ (hg _ _ _ h),rel.Lsz⟩
 obtain ⟨l,h1,ok⟩:=rel.row _ _ _ _ _ (hg _ _ _ h)
 exact ⟨l,h1,ok.trans (fun _=>rfl) fun v a hv=>hv.anti hLt⟩
theorem zBL {f:FuncId} {args:List AV} {H:AH} {nx:Nat} {k:AV→AH→Nat→Prop} (h:zad P f args H nx (fun v H' nx'=>k v (gcH nx v H' nx') nx')):zad P f args H nx k:=by
 intro w L ι vs h1 h2
 refine (h w L ι vs h1 h2).mono fun e w' ⟨v,ι',H',nx',a,h3,h4,h5,h6,h7⟩=>?_
 obtain ⟨hl,hr⟩:=h4.rel.sub (fun r q o h=>zBt h) (fun r o h=>h4.rel.dom r o (zzP h))
 exact ⟨v,ι',_,nx',a,h3,⟨h4.ext,h4.inj,hr,fun b hb=>h4.lv b (hl b hb)⟩,h5,h6.anti fun b hb=>hb.elim .inl fun hb=>.inr (hl b hb),h7⟩
def zxq (P:Program) (qf:FuncId→Nat→List Nat) (orc:zbj) (ex:Nat→(Nat→List Nat)→Code→Kn→AH→Nat→Option Out):zbj:=fun f args H nx =>
 match orc f args H nx with
 | some r=>some r
 |
  none=>match P.funcs[f]? with
  |
   some fn=>match fn.body with
   |
    some c=>match fn.results.toList.mapM (cret P) with
    |
     some rs=>bif Nat.ble args.length fn.ntmps then
      match ex fn.ntmps (qf f) c (zh5 0 args) H nx with
      |
       some (e,K,H',nx')=>match e with
       | .exit _=>none
       | .goto _=>none
       | _=>bif retS K H' rs then some (zgC (zau K H' nx' rs),gcH nx (zgC (zau K H' nx' rs)) H' nx',nx') else none
      | none=>none
     else none
    | none=>none
   | none=>none
  | none=>none
def znq:Nat→Kn→Kn
 | _,[]=>[]
 | m,(j,v)::t=>bif Nat.testBit m j then (j,v)::znq (Nat.xor m (Nat.shiftLeft 1 j)) t else znq m t
theorem zzQ {m j i:Nat}:Nat.testBit (Nat.xor m (Nat.shiftLeft 1 j)) i=(Nat.testBit m i ^^ Nat.beq j i):=by
 have h:Nat.shiftLeft 1 j=2 ^ j:=by
  show 1 <<< j=2 ^ j
  rw [Nat.shiftLeft_eq,Nat.one_mul]
 rw [h]
 have h2:Nat.xor m (2 ^ j)=m ^^^ 2 ^ j:=rfl
 rw [h2,Nat.testBit_xor,Nat.testBit_two_pow]
 congr 1
 cases hb:Nat.beq j i with
 | true=>exact decide_eq_true (zj hb)
 | false=>exact decide_eq_false fun e=>by rw [e,zaA] at hb;cases hb
theorem zmZ:∀ (K:Kn) (m:Nat) (i:Nat),(znq m K).get i=bif Nat.testBit m i then K.get i else .undef
 | [],m,i=>by simp only [znq,Kn.get];cases Nat.testBit m i<;>rfl
 |
  (j,v)::t,m,i=>by
  unfold znq
  cases hj:Nat.testBit m j with
  |
   true =>
   simp only [cond_true,Kn.get]
   cases hji:Nat.beq j i with
   |
    true =>
    rw [← zj hji,hj]
    rfl
   |
    false =>
    simp only [cond_false]
    rw [zmZ t,zzQ,hji,Bool.xor_false]
  |
   false =>
   simp only [cond_false,Kn.get]
   rw [zmZ t]
   cases hji:Nat.beq j i with
   | true=>rw [← zj hji,hj];rfl
   | false=>rfl
def zBw:List Nat→Nat
 | m::_=>m
 | []=>0
def outR (r:ORes):AV × AH × Nat:=(r.v,r.H,r.nx)
def zBl (P:Program) (call:zbj) (op:AOp) (ρ:Nat→AV) (H:AH) (nx:Nat):Option (AV × AH × Nat) :=
 match op with
 | .mov x=>some (ev ρ x,H,nx)
 | .load g n p=>bif zyo n (ev ρ p) H then some (outR (zco g n (ev ρ p) H nx)) else none
 | .store n p v=>bif zuK n (ev ρ p) (ev ρ v) H then some (outR (zdm n (ev ρ p) (ev ρ v) H nx)) else none
 | .idx sz x i=>bif idxS sz (ev ρ x) (ev ρ i) H then some (outR (idxR sz (ev ρ x) (ev ρ i) H nx)) else none
 | .fldaddr off n x=>bif zp0 off n (ev ρ x) then some (outR (zbz off n (ev ρ x) H nx)) else none
 | .fld off n g x=>bif fldS off n (ev ρ x) then some (outR (fldR off n g (ev ρ x) H nx)) else none
 | .len x=>bif lenS (ev ρ x) then some (outR (lenR (ev ρ x) H nx)) else none
 | .bin o x y=>bif binS o (ev ρ x) (ev ρ y) then some (outR (binI o (ev ρ x) (ev ρ y) H nx)) else none
 | .un o x=>bif unS o (ev ρ x) then some (outR (unR o (ev ρ x) H nx)) else none
 | .pick c a b=>bif zBc (ev ρ c) then some (outR (zkx (ev ρ c) (ev ρ a) (ev ρ b) H nx)) else none
 | .append sz bytes x y=>bif zp1 sz bytes (ev ρ x) (ev ρ y) H then some (outR (zcP sz bytes (ev ρ x) (ev ρ y) H nx)) else none
 | .ext i x=>bif extS i (ev ρ x) then some (outR (extR i (ev ρ x) H nx)) else none
 | op=>zol P call op ρ H nx
theorem zAO {P:Program} {call:zbj} {op:AOp} {ρ:Nat→AV} {H:AH} {nx:Nat}:zBl P call op ρ H nx=zol P call op ρ H nx:=by
 cases op<;>rfl
def valS (P:Program) (call:zbj) (o:AOper) (ρ:Nat→AV) (H:AH) (nx:Nat):Option (AV × AH × Nat) :=
 match o.guard with
 | none=>zBl P call o.op ρ H nx
 |
  some (t,want)=>match grd want (ρ t) with
  | some true=>zBl P call o.op ρ H nx
  | some false=>some (.tup [],H,nx)
  | none=>none
theorem zBN {P:Program} {call:zbj} {o:AOper} {ρ:Nat→AV} {H:AH} {nx:Nat}:valS P call o ρ H nx=valX P call o ρ H nx:=by
 unfold valS valX
 simp only [zAO]<;>rcases o.guard with _ | ⟨t,want⟩<;>first | rfl | (rcases hg:grd want (ρ t) with _ | (_ | _)<;>simp only [hg])
def zxC (K:Kn):Option Nat→AV→Kn
 | none,_=>K
 | some d,v=>(d,v)::K
theorem znZ {K1 K:Kn} (h:K.get=K1.get) (d:Option Nat) (v:AV):(setO K d v).get=(zxC K1 d v).get:=by
 cases d with
 | none=>exact h
 |
  some d =>
  funext i
  simp only [setO,zxC,Kn.get_set,Kn.get]
  by_cases hi:i=d
  · rw [if_pos hi,hi,zaA];rfl
  · rw [if_neg hi,zcC (Ne.symm hi),h];rfl
def opsP (P:Program) (call:zbj):List AOper→Kn→AH→Nat→Option St3
 | [],K,H,nx=>some (K,H,nx)
 |
  o::os,K,H,nx=>match valS P call o K.get H nx with
  | some (v,H',nx')=>opsP P call os (zxC K o.dst v) H' nx'
  | none=>none
def zvt (P:Program) (call:zbj):DTree→Kn→AH→Nat→Option St3
 | .done,K,H,nx=>some (K,H,nx)
 | .stop,_,_,_=>none
 |
  .step o t,K,H,nx=>match valS P call o K.get H nx with
  | some (v,H',nx')=>zvt P call t (zxC K o.dst v) H' nx'
  | none=>none
 |
  .alt o t .stop,K,H,nx=>match valS P call o K.get H nx with
  | some (v,H',nx')=>zvt P call t (zxC K o.dst v) H' nx'
  | none=>none
 | .alt _ _ _,_,_,_=>none
theorem zqf {call:zbj} {o:AOper} {K K1:Kn} (hk:K.get=K1.get) {H:AH} {nx:Nat} {v:AV} {H':AH} {nx':Nat} (h:valS P call o K1.get H nx=some (v,H',nx')):oneX P call o K H nx=some (setO K o.dst v,H',nx'):=by
 rw [zBN] at h
 unfold valX at h
 unfold oneX
 rw [hk]
 cases hg:o.guard with
 |
  none =>
  rw [hg] at h
  simp only at h ⊢
  rw [h]
 |
  some p =>
  obtain ⟨t,want⟩:=p
  rw [hg] at h
  simp only at h ⊢
  split at h
  ·
   rename_i e
   simp only [e,h]
  ·
   rename_i e
   cases h
   simp only [e]
  · cases h
theorem zyN {call:zbj}:∀ {os:List AOper} {K1 K:Kn} {H:AH} {nx:Nat} {r:St3},opsP P call os K1 H nx=some r→K.get=K1.get→∃ K',zwO P call os K H nx=some (K',r.2)∧K'.get=r.1.get
 |
  [],K1,K,H,nx,r,h,hk=>by
  cases h
  exact ⟨K,rfl,hk⟩
 |
  o::os,K1,K,H,nx,r,h,hk=>by
  simp only [opsP] at h
  split at h
  ·
   rename_i v H' nx' e
   obtain ⟨K',h1,h2⟩:=zyN h (znZ hk o.dst v)
   refine ⟨K',?_,h2⟩
   simp only [zwO,zqf hk e]
   exact h1
  · cases h
theorem zpR {call:zbj}:∀ {t:DTree} {K1 K:Kn} {H:AH} {nx:Nat} {r:St3},zvt P call t K1 H nx=some r→K.get=K1.get→∃ K',zlD P call t K H nx=some (K',r.2)∧K'.get=r.1.get
 |
  .done,K1,K,H,nx,r,h,hk=>by
  cases h
  exact ⟨K,rfl,hk⟩
 | .stop,_,_,_,_,_,h,_=>by cases h
 |
  .step o t,K1,K,H,nx,r,h,hk=>by
  simp only [zvt] at h
  split at h
  ·
   rename_i v H' nx' e
   obtain ⟨K',h1,h2⟩:=zpR h (znZ hk o.dst v)
   refine ⟨K',?_,h2⟩
   simp only [zlD,zqf hk e]
   exact h1
  · cases h
 |
  .alt o t .stop,K1,K,H,nx,r,h,hk=>by
  simp only [zvt] at h
  split at h
  ·
   rename_i v H' nx' e
   obtain ⟨K',h1,h2⟩:=zpR h (znZ hk o.dst v)
   refine ⟨K',?_,h2⟩
   simp only [zlD,zqf hk e]
   exact h1
  · cases h
 | .alt _ _ .done,_,_,_,_,_,h,_=>by cases h
 | .alt _ _ (.step _ _),_,_,_,_,_,h,_=>by cases h
 | .alt _ _ (.alt _ _ _),_,_,_,_,_,h,_=>by cases h
def outK (l:Nat):Option St3→Option Out
 | some (K,H,nx)=>some (.normal,znq l K,H,nx)
 | none=>none
def regX (P:Program) (call:zbj) (nt:Nat) (q:Nat→List Nat) (id:Nat) (ops:Array Oper) (draw:Bool) (K:Kn) (H:AH) (nx:Nat):Option Out :=
 match ops.toList.mapM (zyf P nt ops) with
 | none=>none
 |
  some as'=>bif draw then
   (bif P.follows .mixedOrders&&(List.range ops.size).all (fun j=>((ops.toList.map zcr).getD j []).all fun i=>Nat.blt i j) then
    match zvt P call (ze9 ((zdW (q id) 0 as').map (AOper.ro (q 999999))) (ops.toList.map zcr) ops.size (List.replicate ops.size false)) K H nx with
    | some r=>outK (zBw (q 999998)) (some r)
    | none=>outK (zBw (q 999998)) (zBu P call ((zdW (q id) 0 as').map (AOper.ro (q 999999))) (ops.toList.map zcr) K H nx)
   else none)
  else outK (zBw (q 999998)) (opsP P call (as'.map (AOper.ro (q 999999))) K H nx)
def zAb (l:Nat) (ex:Kn→AH→Nat→Option Out):Nat→Option Out→Option Out
 | 0,_=>none
 |
  m+1,r=>match r with
  | some (.goto l',K,H,nx)=>bif Nat.beq l' l then zAb l ex m (ex K H nx) else none
  | r=>r
def zeZ (P:Program) (qf:FuncId→Nat→List Nat) (orc:zbj):Nat→Nat→(Nat→List Nat)→Code→Kn→AH→Nat→Option Out
 | 0,_,_,_,_,_,_=>none
 |
  n+1,nt,q,c,K,H,nx=>match c with
  | .skip=>some (.normal,K,H,nx)
  | .region id ops draw=>regX P (zxq P qf orc (zeZ P qf orc n)) nt q id ops draw K H nx
  |
   .seq a b=>match zeZ P qf orc n nt q a K H nx with
   | some (.normal,K',H',nx')=>zeZ P qf orc n nt q b K' H' nx'
   | r=>r
  |
   .cond c a b=>match copd c with
   |
    some x=>match ev K.get x with
    | .bool true=>zeZ P qf orc n nt q a K H nx
    | .bool false=>zeZ P qf orc n nt q b K H nx
    | _=>none
   | none=>none
  |
   .block id c=>match zeZ P qf orc n nt q c K H nx with
   | some (.exit j,K',H',nx')=>bif Nat.beq j id then some (.normal,K',H',nx') else some (.exit j,K',H',nx')
   | r=>r
  |
   .loop c=>match zeZ P qf orc n nt q c K H nx with
   | some (.normal,K',H',nx')=>zeZ P qf orc n nt q (.loop c) K' H' nx'
   | r=>r
  | .exit id=>some (.exit id,K,H,nx)
  | .ret=>some (.ret,K,H,nx)
  |
   .scope c=>match zeZ P qf orc n nt q c K H nx with
   |
    some (.goto l,K',H',nx')=>match findLabel c l with
    | some rest=>zAb l (zeZ P qf orc n nt q rest) n (zeZ P qf orc n nt q rest K' H' nx')
    | none=>none
   | r=>r
  | .label _=>some (.normal,K,H,nx)
  | .goto l=>some (.goto l,K,H,nx)
  | _=>none
variable {qf:FuncId→Nat→List Nat} {orc:zbj}
def RunC (P:Program) (qf:FuncId→Nat→List Nat) (orc:zbj) (n:Nat):Prop :=
 ∀ (nt:Nat) (L:Nat→Prop) (w0:World) (ι0:Inj) (H0:AH) (B:Nat),RelH w0 L ι0 H0 B→∀ (q:Nat→List Nat) (c:Code) (w:World) (ι:Inj) (K:Kn) (H:AH) (nx:Nat) (a:Act) (r:Out),
  In nt w0 L ι0 H0 B w ι K.get H nx a→zeZ P qf orc n nt q c K H nx=some r→c.wp P (QQ nt w0 L ι0 H0 B (QX r)) a w
def zuz (P:Program) (qf:FuncId→Nat→List Nat) (orc:zbj) (n:Nat):Prop :=
 ∀ (nt:Nat) (L:Nat→Prop) (w0:World) (ι0:Inj) (H0:AH) (B:Nat),RelH w0 L ι0 H0 B→∀ (q:Nat→List Nat) (c:Code) (w:World) (ι:Inj) (K:Kn) (H:AH) (nx:Nat) (a:Act) (r:Out),
  In nt w0 L ι0 H0 B w ι K.get H nx a→zeZ P qf orc n nt q (.loop c) K H nx=some r→Code.rounds P c (QQ nt w0 L ι0 H0 B (QX r)) n a w
theorem zBx {f:FuncId} {fn:Func} {c:Code} {rs:List ARet} (hf:P.funcs[f]? = some fn) (hb:fn.body=some c) (hr:fn.results.toList.mapM (cret P)=some rs) {args:List AV} {H:AH} {nx:Nat} {Post:AV→AH→Nat→Prop} (hn:args.length≤fn.ntmps)
  (h:∀ (w:World) (L:Nat→Prop) (ι:Inj) (a:Act),RelH w L ι H nx→In fn.ntmps w L ι H nx w ι (zh5 0 args).get H nx a→c.wp P (QQ fn.ntmps w L ι H nx (retK rs Post)) a w):zad P f args H nx Post:=by
 intro w L ι vs rel hv
 have hlen:vs.size=args.length:=by simpa using hv.length
 refine calls_of_wp hf hb ?_
 have hin:In fn.ntmps w L ι H nx w ι (zh5 0 args).get H nx { tmps:=vs++Array.replicate (fn.ntmps - vs.size) undef,defers:=[] }:=by
  refine ⟨by simp;omega,rfl, .refl rel,Nat.le_refl _,fun i=>?_⟩
  rw [zmM,if_pos (Nat.zero_le _),Nat.sub_zero]
  rcases Nat.lt_or_ge i args.length with hi | hi
  ·
   have h1:i < vs.size:=by omega
   refine hv.get i _ _ ?_ (by simp [List.getD,List.getElem?_eq_getElem hi])
   simp [Array.getD_eq_getD_getElem?,Array.getElem?_append,h1]
  ·
   rw [show args.getD i .undef=.undef by simp [List.getD,List.getElem?_eq_none hi]]
   exact .undef _ _
 refine wp_mono (h w L ι _ rel hin) fun e a' w' ⟨ι',K,H',nx',hin',hq⟩=>?_
 have fin:za8 K H' nx' rs∧Post (zgC (zau K H' nx' rs)) H' nx'→a'.defers=[]∧∃ v,(results fn a'.tmps).run P w'=.ok v w'∧∃ v_1 ι' H' nx' a,Ending.returned v=.returned v_1∧Step w L ι H nx w' ι' H' nx'∧nx≤nx'∧VR w' (Lt L ι' H') ι' v_1 a∧Post a H' nx':=by
  intro ⟨h1,h2⟩
  obtain ⟨us,h3,h4⟩:=zur hin'.st.rel hin'.kn _ _ hr h1
  obtain ⟨v,h5,h6⟩:=zoS h3 h4
  exact ⟨hin'.defers,v,h5,v,ι',H',nx',_,rfl,hin'.st,hin'.le,h6,h2⟩
 cases e with
 | normal=>exact fin hq
 | ret=>exact fin hq
 | exit id=>exact hq.elim
 | _=>exact hq.elim
theorem znX (ho:orc.Sound P) {n:Nat} (hr:RunC P qf orc n):(zxq P qf orc (zeZ P qf orc n)).Sound P:=by
 intro f args H nx r h
 unfold zxq at h
 split at h
 ·
  rename_i r' e
  cases h
  exact ho f args H nx _ e
 ·
  split at h
  ·
   rename_i fn hf
   split at h
   ·
    rename_i c hb
    split at h
    ·
     rename_i rs hrs
     cases hble:Nat.ble args.length fn.ntmps with
     | false=>rw [hble] at h;cases h
     |
      true =>
      rw [hble] at h
      simp only [cond_true] at h
      split at h
      ·
       rename_i e K H' nx' he
       have key:(∀ id,e≠.exit id)→(∀ l,e≠.goto l)→(bif retS K H' rs then some (zgC (zau K H' nx' rs),gcH nx (zgC (zau K H' nx' rs)) H' nx',nx') else none)=some r→zad P f args H nx (fun v H' nx'=>(v,H',nx')=r):=by
        intro hne hng h
        cases hs:retS K H' rs with
        | false=>rw [hs] at h;cases h
        |
         true =>
         rw [hs] at h
         simp only [cond_true,Option.some.injEq] at h
         subst h
         refine zBL (zBx hf hb hrs (bleT hble) fun w L ι a rel hin=>?_)
         refine wp_mono (hr fn.ntmps L w ι H nx rel (qf f) c w ι _ H nx a _ hin he) fun e' a' w' ⟨ι',K',H2,nx2,hin',hq⟩=>⟨ι',K',H2,nx2,hin',?_⟩
         have hk:retK rs (fun v H'' nx''=>(v,gcH nx v H'' nx'',nx'')=(zgC (zau K H' nx' rs),gcH nx (zgC (zau K H' nx' rs)) H' nx',nx')) e K H' nx':=by
          cases e with
          | exit id=>exact absurd rfl (hne id)
          | goto l=>exact absurd rfl (hng l)
          | normal=>exact ⟨zql hs,rfl⟩
          | ret=>exact ⟨zql hs,rfl⟩
         cases e' with
         | normal=>cases hq;exact hk
         | exit id=>cases hq;exact absurd rfl (hne id)
         | ret=>cases hq;exact hk
         | goto l=>cases hq;exact absurd rfl (hng l)
         | _=>exact hq.elim
       cases e with
       | exit id=>cases h
       | goto l=>cases h
       | normal=>exact key (by intro id e;cases e) (by intro id e;cases e) h
       | ret=>exact key (by intro id e;cases e) (by intro id e;cases e) h
      · cases h
    · cases h
   · cases h
  · cases h
theorem Kn.drop_nil:∀ K:Kn,K.drop []=K
 | []=>rfl
 |
  (j,v)::t=>by
  show (j,v)::Kn.drop t []=(j,v)::t
  rw [Kn.drop_nil t]
theorem zs6 {l:Nat} {r:Option St3} {o:Out} (h:outK l r=some o):∃ s,r=some s∧o=(.normal,znq l s.1,s.2.1,s.2.2):=by
 cases r with
 | none=>cases h
 | some s=>obtain ⟨K,H,nx⟩:=s;cases h;exact ⟨_,rfl,rfl⟩
theorem In.less {nt:Nat} {w0:World} {L:Nat→Prop} {ι0:Inj} {H0:AH} {B:Nat} {w:World} {ι:Inj} {ρ ρ2:Nat→AV} {H:AH} {nx:Nat} {a:Act} (h:In nt w0 L ι0 H0 B w ι ρ H nx a) (hr:∀ i,ρ2 i=.undef∨ρ2 i=ρ i):In nt w0 L ι0 H0 B w ι ρ2 H nx a :=
 ⟨h.size,h.defers,h.st,h.le,fun i=>by rcases hr i with e | e<;>rw [e];exact .undef _ _;exact h.kn i⟩
theorem zvC {l:Nat} {K K':Kn} (h:K'.get=K.get) (i:Nat):(znq l K).get i=.undef∨(znq l K).get i=K'.get i:=by
 rw [zmZ,h]
 cases Nat.testBit l i
 · exact .inl rfl
 · exact .inr rfl
theorem zsA {c:Code} {nt:Nat} {w0:World} {L:Nat→Prop} {ι0:Inj} {H0:AH} {B:Nat} {l:Nat} {K K':Kn} {H:AH} {nx:Nat} {a:Act} {w:World} (hk:K'.get=K.get)
  (h:c.wp P (QQ nt w0 L ι0 H0 B (QX (.normal,K',H,nx))) a w):c.wp P (QQ nt w0 L ι0 H0 B (QX (.normal,znq l K,H,nx))) a w:=by
 refine wp_mono h fun e' a' w' ⟨ι',K1,H1,nx1,hin',hq⟩=>?_
 cases e' with
 | normal=>cases hq;exact ⟨ι',znq l K,_,_,hin'.less (zvC hk),rfl⟩
 | exit id=>cases hq
 | ret=>cases hq
 | goto l=>cases hq
 | _=>exact hq.elim
theorem zBr {call:zbj} (hs:call.Sound P) {nt:Nat} {w0:World} {L:Nat→Prop} {ι0:Inj} {H0:AH} {B:Nat} (base:RelH w0 L ι0 H0 B) {q:Nat→List Nat} {id:Nat} {ops:Array Oper} {draw:Bool} {K:Kn} {H:AH} {nx:Nat} {w:World} {ι:Inj} {a:Act} {r:Out}
  (hin:In nt w0 L ι0 H0 B w ι K.get H nx a) (h:regX P call nt q id ops draw K H nx=some r):(Code.region id ops draw).wp P (QQ nt w0 L ι0 H0 B (QX r)) a w:=by
 unfold regX at h
 split at h
 · cases h
 ·
  rename_i as' hm
  obtain ⟨h1,h2⟩:=zp7 hm
  cases draw with
  |
   false =>
   simp only [cond_false] at h
   obtain ⟨s,e0,rfl⟩:=zs6 h
   obtain ⟨K',e,hk⟩:=zyN e0 rfl
   refine zsA hk ?_
   refine wp_region_list (zk4 _ _ (by simpa using h1) (fun i o ao h3 h4=>?_) hin (zuE (drop:=[]) hs e ?_))
   ·
    rw [List.getElem?_map] at h4
    obtain ⟨b,h5,rfl⟩:=Option.map_eq_some_iff.1 h4
    exact (h2 i o b h3 h5).ro
   ·
    have:K'.drop []=K':=Kn.drop_nil _
    rw [this]
    rfl
  |
   true =>
   simp only [cond_true] at h
   generalize hg:(P.follows .mixedOrders&&_)=b at h
   cases b with
   | false=>cases h
   |
    true =>
    simp only [Bool.and_eq_true] at hg
    simp only [cond_true] at h
    have hlen:((zdW (q id) 0 as').map (AOper.ro (q 999999))).length=ops.size:=by rw [List.length_map,zgp,h1];simp
    have hrel:∀ (i:Nat) (o:Oper) (ao:AOper),ops.toList[i]? = some o→((zdW (q id) 0 as').map (AOper.ro (q 999999)))[i]? = some ao→OpRel P nt ops o ao:=fun i o ao h3 h4=>by
     rw [List.getElem?_map] at h4
     obtain ⟨b0,h40,rfl⟩:=Option.map_eq_some_iff.1 h4
     obtain ⟨b,h5,h6⟩:=zjX _ _ _ _ _ h40
     rcases h6 with rfl | rfl
     · exact (h2 i o _ h3 h5).ro
     · exact (h2 i o _ h3 h5).quiet.ro
    split at h
    ·
     rename_i s e0
     obtain ⟨s2,e',rfl⟩:=zs6 h
     cases e'
     obtain ⟨K',e,hk⟩:=zpR e0 rfl
     refine zsA hk ?_
     refine zoH nt w0 L ι0 H0 B id ops _ [] _ hlen hrel hg.1 hg.2 w ι K H nx a hin (znj hs e ?_)
     rw [Kn.drop_nil]
     rfl
    ·
     obtain ⟨s,e,rfl⟩:=zs6 h
     exact zsA rfl (zzJ hs base hlen hrel hg.1 hin e rfl)
theorem zw6 (ho:orc.Sound P):∀ n,RunC P qf orc n∧zuz P qf orc n
 | 0=>⟨fun _ _ _ _ _ _ _ _ _ _ _ _ _ _ _ _ _ h=>(by cases h),fun _ _ _ _ _ _ _ _ _ _ _ _ _ _ _ _ _ h=>(by cases h)⟩
 |
  n+1=>by
  obtain ⟨ihR,ihL⟩:=zw6 ho n
  have hcall:=znX ho ihR
  have loopStep:zuz P qf orc (n+1):=by
   intro nt L w0 ι0 H0 B base q c w ι K H nx a r hin h
   rw [rounds_succ]
   simp only [zeZ] at h
   split at h
   ·
    rename_i K' H' nx' e
    refine wp_mono (ihR nt L w0 ι0 H0 B base q c w ι K H nx a _ hin e) fun e' a' w' ⟨ι',K1,H1,nx1,hin',hq⟩=>?_
    cases e' with
    | normal=>cases hq;exact ihL nt L w0 ι0 H0 B base q c w' ι' _ _ _ a' r hin' h
    | exit id=>cases hq
    | ret=>cases hq
    | goto l=>cases hq
    | _=>exact hq.elim
   ·
    rename_i r' hne
    refine wp_mono (ihR nt L w0 ι0 H0 B base q c w ι K H nx a r hin h) fun e' a' w' ⟨ι',K1,H1,nx1,hin',hq⟩=>?_
    cases e' with
    | normal=>cases hq;exact absurd h (hne K1 H1 nx1)
    | exit id=>exact ⟨ι',K1,H1,nx1,hin',hq⟩
    | ret=>exact ⟨ι',K1,H1,nx1,hin',hq⟩
    | goto l=>exact ⟨ι',K1,H1,nx1,hin',hq⟩
    | _=>exact hq.elim
  refine ⟨?_,loopStep⟩
  intro nt L w0 ι0 H0 B base q c w ι K H nx a r hin h
  cases c with
  | skip=>cases h;exact wp_skip ⟨ι,K,H,nx,hin,rfl⟩
  | label l=>cases h;exact wp_label ⟨ι,K,H,nx,hin,rfl⟩
  | goto l=>cases h;exact wp_goto ⟨ι,K,H,nx,hin,rfl⟩
  | exit id=>cases h;exact wp_exit ⟨ι,K,H,nx,hin,rfl⟩
  | ret=>cases h;exact wp_ret ⟨ι,K,H,nx,hin,rfl⟩
  | region id ops draw=>exact zBr hcall base hin h
  |
   seq c1 c2 =>
   simp only [zeZ] at h
   split at h
   ·
    rename_i K' H' nx' e
    refine wp_seq (wp_mono (ihR nt L w0 ι0 H0 B base q c1 w ι K H nx a _ hin e) fun e' a' w' ⟨ι',K1,H1,nx1,hin',hq⟩=>?_)
    cases e' with
    | normal=>cases hq;exact ihR nt L w0 ι0 H0 B base q c2 w' ι' _ _ _ a' r hin' h
    | exit id=>cases hq
    | ret=>cases hq
    | goto l=>cases hq
    | _=>exact hq.elim
   ·
    rename_i r' hne
    refine wp_seq (wp_mono (ihR nt L w0 ι0 H0 B base q c1 w ι K H nx a r hin h) fun e' a' w' ⟨ι',K1,H1,nx1,hin',hq⟩=>?_)
    cases e' with
    | normal=>cases hq;exact absurd h (hne K1 H1 nx1)
    | exit id=>exact ⟨ι',K1,H1,nx1,hin',hq⟩
    | ret=>exact ⟨ι',K1,H1,nx1,hin',hq⟩
    | goto l=>exact ⟨ι',K1,H1,nx1,hin',hq⟩
    | _=>exact hq.elim
  |
   cond x1 c1 c2 =>
   simp only [zeZ] at h
   split at h
   ·
    rename_i x' hx
    have hv:=zu hin.kn hx
    split at h
    ·
     rename_i hev
     rw [hev] at hv
     generalize hu:a.eval x1=u at hv
     cases hv
     exact wp_cond_true hu (ihR nt L w0 ι0 H0 B base q c1 w ι K H nx a r hin h)
    ·
     rename_i hev
     rw [hev] at hv
     generalize hu:a.eval x1=u at hv
     cases hv
     exact wp_cond_false hu (ihR nt L w0 ι0 H0 B base q c2 w ι K H nx a r hin h)
    · cases h
   · cases h
  |
   block id c1 =>
   simp only [zeZ] at h
   split at h
   ·
    rename_i j K' H' nx' e
    refine wp_block (wp_mono (ihR nt L w0 ι0 H0 B base q c1 w ι K H nx a _ hin e) fun e' a' w' ⟨ι',K1,H1,nx1,hin',hq⟩=>?_)
    cases e' with
    | normal=>cases hq
    |
     exit j' =>
     cases hq
     simp only [Exit.inBlock]
     by_cases hj:j=id
     ·
      subst hj
      rw [if_pos rfl]
      rw [zaA] at h
      cases h
      exact ⟨ι',_,_,_,hin',rfl⟩
     ·
      rw [if_neg hj]
      rw [zcC hj] at h
      cases h
      exact ⟨ι',_,_,_,hin',rfl⟩
    | ret=>cases hq
    | goto l=>cases hq
    | _=>exact hq.elim
   ·
    rename_i r' hne
    refine wp_block (wp_mono (ihR nt L w0 ι0 H0 B base q c1 w ι K H nx a r hin h) fun e' a' w' ⟨ι',K1,H1,nx1,hin',hq⟩=>?_)
    cases e' with
    | normal=>exact ⟨ι',K1,H1,nx1,hin',hq⟩
    | exit j'=>cases hq;exact absurd h (hne j' K1 H1 nx1)
    | ret=>exact ⟨ι',K1,H1,nx1,hin',hq⟩
    | goto l=>exact ⟨ι',K1,H1,nx1,hin',hq⟩
    | _=>exact hq.elim
  | loop c1=>exact wp_loop_rounds (n+1) (loopStep nt L w0 ι0 H0 B base q c1 w ι K H nx a r hin h)
  |
   scope c1 =>
   simp only [zeZ] at h
   split at h
   ·
    rename_i l K' H' nx' e
    split at h
    ·
     rename_i rest hrest
     let G:Nat→Act→World→Prop:=fun m a w=>∃ ι K H nx,In nt w0 L ι0 H0 B w ι (Kn.get K) H nx a∧zAb l (zeZ P qf orc n nt q rest) m (zeZ P qf orc n nt q rest K H nx)=some r
     have jm:∀ {Q:Exit→Act→World→Prop} {J J':Act→World→Prop} {cz:Code} {a:Act} {w:World},(∀ a w,J a w→J' a w)→cz.wp P (Exit.jump l J Q) a w→cz.wp P (Exit.jump l J' Q) a w:=by
      intro Q J J' cz a w hJ h
      refine wp_mono h fun e' a' w' hq=>?_
      cases e' with
      | goto l'=>exact ⟨hq.1,hJ _ _ hq.2⟩
      | _=>exact hq
     refine wp_scope_jumps l (fun a w=>∃ m,G m a w) (zhg G) hrest ?_ ?_
     ·
      refine wp_mono (ihR nt L w0 ι0 H0 B base q c1 w ι K H nx a _ hin e) fun e' a' w' ⟨ι',K1,H1,nx1,hin',hq⟩=>?_
      cases e' with
      | goto l'=>cases hq;exact ⟨rfl,n,ι',_,_,_,hin',h⟩
      | normal=>cases hq
      | exit id=>cases hq
      | ret=>cases hq
      | _=>exact hq.elim
     ·
      intro a' w' hJ
      obtain ⟨ι',K1,H1,nx1,hin',hex⟩:=zlH hJ
      cases hm0:zhg G a' w' with
      | zero=>rw [hm0] at hex;cases hex
      |
       succ m =>
       rw [hm0] at hex
       cases hz:zeZ P qf orc n nt q rest K1 H1 nx1 with
       | none=>rw [hz] at hex;cases hex
       |
        some o =>
        obtain ⟨e1,K2,H2,nx2⟩:=o
        refine jm (fun a2 w2 (h:G m a2 w2)=>⟨⟨_,h⟩,Nat.lt_succ_of_le (zo0 h)⟩) (wp_mono (ihR nt L w0 ι0 H0 B base q rest w' ι' K1 H1 nx1 a' _ hin' hz) fun e' a2 w2 ⟨ι2,K3,H3,nx3,hin2,hq⟩=>?_)
        rw [hz] at hex
        cases e' with
        |
         goto l' =>
         cases hq
         simp only [zAb] at hex
         cases hb:Nat.beq l' l with
         | false=>rw [hb] at hex;cases hex
         |
          true =>
          rw [hb] at hex
          exact ⟨zj hb,ι2,_,_,_,hin2,hex⟩
        | normal=>cases hq;cases hex;exact ⟨ι2,_,_,_,hin2,rfl⟩
        | exit id=>cases hq;cases hex;exact ⟨ι2,_,_,_,hin2,rfl⟩
        | ret=>cases hq;cases hex;exact ⟨ι2,_,_,_,hin2,rfl⟩
        | _=>exact hq.elim
    · cases h
   ·
    rename_i r' hne
    refine wp_scope_straight (wp_mono (ihR nt L w0 ι0 H0 B base q c1 w ι K H nx a r hin h) fun e' a' w' ⟨ι',K1,H1,nx1,hin',hq⟩=>?_)
    cases e' with
    | normal=>exact ⟨ι',K1,H1,nx1,hin',hq⟩
    | exit id=>exact ⟨ι',K1,H1,nx1,hin',hq⟩
    | ret=>exact ⟨ι',K1,H1,nx1,hin',hq⟩
    | goto l=>cases hq;exact absurd h (hne l K1 H1 nx1)
    | _=>exact hq.elim
  | _=>cases h
theorem zvd (ho:orc.Sound P) (n:Nat) {f:FuncId} {args:List AV} {H:AH} {nx:Nat} {r:AV × AH × Nat} (h:zxq P qf orc (zeZ P qf orc n) f args H nx=some r):zad P f args H nx (fun v H' nx'=>(v,H',nx')=r) :=
 znX ho (zw6 ho n).1 f args H nx r h
def zwm (b:Bool):Option (AV × AH × Nat)→Bool
 | some (.bool c,_,_)=>c == b
 | _=>false
theorem zvJ (ho:orc.Sound P) (n:Nat) {f:FuncId} {args:List AV} {b:Bool} (h:zwm b (zxq P qf orc (zeZ P qf orc n) f args [] 0)=true):zz P f args (·=.bool b):=by
 unfold zwm at h
 split at h
 ·
  rename_i c H' nx' e
  have hb:c=b:=by simpa using h
  subst hb
  exact (zvd ho n e).mono fun v H1 nx1 he=>by
   cases he
   exact ⟨_, .bool _ _,rfl⟩
 · cases h
def qEx:List (Nat × List Nat)→Nat→List Nat
 | [],_=>List.range 150
 | (j,l)::t,i=>bif Nat.beq j i then (List.range 150).filter (fun x => !memN l x) else qEx t i
def qTabK:List (Nat × List Nat × List Nat × List (Nat × List Nat))→FuncId→Nat→List Nat
 | [],_=>qAll
 | (g,ro,kp,ex)::t,f=>bif Nat.beq g f then (fun id=>bif Nat.beq id 999999 then ro else bif Nat.beq id 999998 then kp else qEx ex id) else qTabK t f
end
def frB (m:Bool) (H:AH):Nat→AV→AV→Bool
 | 0,_,_=>false
 |
  d+1,b,a=>match a with
  | .undef=>true
  |
   .int k n=>match b with
   | .int k' n'=>decide (k'=k)&&decide (n'=n)
   | _=>false
  |
   .bool x=>match b with
   | .bool y=>y == x
   | _=>false
  |
   .str s=>match b with
   | .str t=>decide (t=s)
   | _=>false
  |
   .nilp=>match b with
   | .nilp=>true
   | _=>false
  |
   .nilfn=>match b with
   | .nilfn=>true
   | _=>false
  |
   .cut=>match b with
   | .cut=>true
   | _=>false
  |
   .nilsl=>match b with
   | .nilsl=>true
   | _=>false
  |
   .sl sz n f=>match b with
   | .sl sz' n' f'=>Nat.beq sz' sz&&(Nat.beq n' n&&allB n fun i=>allB sz fun j=>frB m H d (f' i j) (f i j))
   | .nilsl=>Nat.beq n 0
   |
    .own r q g off n'=>m&&(match H.get r q with
    | some (.row sz' els g')=>Nat.beq sz' sz&&(Nat.beq n' n&&(Nat.beq g g'&&(Nat.ble n big&&(Nat.ble (off+n) els.length&&allB n fun i=>allB sz fun j=>frB m H d ((els.getD (off+i) []).getD j .undef) (f i j)))))
    | _=>false)
   | _=>false
  |
   .agg l=>match b with
   | .agg l'=>Nat.beq l'.length l.length&&allB l.length fun i=>frB m H d (l'.getD i .undef) (l.getD i .undef)
   | _=>false
  |
   .tup l=>match b with
   | .tup l'=>Nat.beq l'.length l.length&&allB l.length fun i=>frB m H d (l'.getD i .undef) (l.getD i .undef)
   | _=>false
  | _=>false
theorem zqn {α:Type} {l:List α} {i:Nat} {a d:α} (h:l[i]? = some a):l.getD i d=a:=by rw [List.getD_eq_getElem?_getD,h];rfl
theorem zsi {H:AH} {m:Bool} {D:Nat→Nat→Prop} (hD:m=true→∀ r q,D r q):∀ (d:Nat) (b a:AV),frB m H d b a=true→Vw H [] nos D false b a
 | 0,_,_,h=>by cases h
 |
  d+1,b,a,h=>by
  unfold frB at h
  split at h
  · exact .undef _ _
  ·
   split at h
   ·
    simp only [Bool.and_eq_true,decide_eq_true_eq] at h
    obtain ⟨rfl,rfl⟩:=h
    exact .int _ _ _
   · cases h
  ·
   split at h
   ·
    simp only [beq_iff_eq] at h
    subst h
    exact .bool _ _
   · cases h
  ·
   split at h
   ·
    simp only [decide_eq_true_eq] at h
    subst h
    exact .str _ _
   · cases h
  ·
   split at h
   · exact .nilp _
   · cases h
  ·
   split at h
   · exact .nilfn _
   · cases h
  ·
   split at h
   · exact .cut _
   · cases h
  ·
   split at h
   · exact .nilsl _
   · cases h
  ·
   split at h
   ·
    rename_i sz' n' f'
    simp only [Bool.and_eq_true] at h
    obtain ⟨h1,h2,h3⟩:=h
    obtain rfl:=zj h1
    obtain rfl:=zj h2
    exact .slf _ _ _ _ _ fun i j hi hj=>zsi hD d _ _ (zaa (zaa h3 hi) hj)
   ·
    obtain rfl:=zj h
    exact .nil0 _ _ _
   ·
    rename_i r q g off n'
    rw [Bool.and_eq_true] at h
    obtain ⟨hm,h⟩:=h
    split at h
    ·
     rename_i sz' els g' hg
     simp only [Bool.and_eq_true] at h
     obtain ⟨h1,h2,h3,h4,h5,h6⟩:=h
     obtain rfl:=zj h1
     obtain rfl:=zj h2
     obtain rfl:=zj h3
     exact .frz _ r q g off n' sz' els _ (hD hm r q) hg (bleT h4) (bleT h5) fun i j hi hj=>zsi hD d _ _ (zaa (zaa h6 hi) hj)
    · cases h
   · cases h
  ·
   split at h
   ·
    rename_i l l'
    simp only [Bool.and_eq_true] at h
    obtain ⟨h1,h2⟩:=h
    have hl:=zj h1
    refine .agg _ _ _ hl fun i x y hx hy=>?_
    have:=zaa h2 (List.getElem?_eq_some_iff.1 hy).1
    rw [zqn hx,zqn hy] at this
    exact zsi hD d _ _ this
   · cases h
  ·
   split at h
   ·
    rename_i l l'
    simp only [Bool.and_eq_true] at h
    obtain ⟨h1,h2⟩:=h
    have hl:=zj h1
    refine .tup _ _ _ hl fun i x y hx hy=>?_
    have:=zaa h2 (List.getElem?_eq_some_iff.1 hy).1
    rw [zqn hx,zqn hy] at this
    exact zsi hD d _ _ this
   · cases h
  · cases h
def frBs (m:Bool) (H:AH):List AV→List AV→Bool
 | [],[]=>true
 | b::bs,a::asv=>frB m H 30 b a&&frBs m H bs asv
 | _,_=>false
theorem zth {H:AH} {m:Bool} {D:Nat→Nat→Prop} (hD:m=true→∀ r q,D r q):∀ {bs asv:List AV},frBs m H bs asv=true→Lend H D bs asv
 | [],[],_=>.nil
 |
  b::bs,a::asv,h=>by
  rw [frBs,Bool.and_eq_true] at h
  exact .cons (zsi hD 30 _ _ h.1) (zth hD h.2)
 | [],_::_,h=>by cases h
 | _::_,[],h=>by cases h
structure Memo where
 f:FuncId
 args:List AV
 res:AV
def zBZ:List Memo→zbj→zbj
 | [],orc,f,args,H,nx=>orc f args H nx
 | e::t,orc,f,args,H,nx=>bif Nat.beq e.f f&&(bif e.res.scal then frBs true H args e.args else frBs false H args e.args) then some (e.res,H,nx) else zBZ t orc f args H nx
theorem znR {P:Program} {orc:zbj} (ho:orc.Sound P):∀ {l:List Memo},(∀ e∈l,zz P e.f e.args (·=e.res))→(zBZ l orc).Sound P
 | [],_=>ho
 |
  e::t,hl=>by
  intro f args H nx r h
  unfold zBZ at h
  cases hb:Nat.beq e.f f&&(bif e.res.scal then frBs true H args e.args else frBs false H args e.args) with
  | false=>rw [hb] at h;exact znR ho (fun e' h'=>hl e' (List.mem_cons_of_mem _ h')) f args H nx r h
  |
   true =>
   rw [hb] at h
   cases h
   rw [Bool.and_eq_true] at hb
   obtain rfl:=zj hb.1
   have hb2:=hb.2
   cases hs:e.res.scal with
   |
    true =>
    rw [hs] at hb2
    exact (za1 (D:=allR) (hl e (by simp)) (zth (fun _ _ _=>trivial) hb2) (.inl hs)).ok rfl
   |
    false =>
    rw [hs] at hb2
    exact (za1 (D:=noR) (hl e (by simp)) (zth (fun h=>by cases h) hb2) (.inr fun _ _ h=>h)).ok rfl
def oN (d:Nat) (a:AOp):AOper:=⟨some d,a,none⟩
def oG (d t:Nat) (b:Bool) (a:AOp):AOper:=⟨some d,a,some (t,b)⟩
theorem evD:type_of% @evA∧type_of% @boxR.eq_1∧type_of% @zov.eq_1∧type_of% @zkn.eq_1∧type_of% @fldR.eq_1∧type_of% @binI.eq_1∧type_of% @binI.eq_2∧type_of% @binI.eq_3∧type_of% @binI.eq_4∧type_of% @binI.eq_5∧type_of% @binI.eq_6∧type_of% @binI.eq_7∧type_of% @binI.eq_8∧type_of% @binI.eq_9∧type_of% @binI.eq_10∧type_of% @binI.eq_11∧type_of% @binI.eq_12∧type_of% @binI.eq_13∧type_of% @binI.eq_14∧type_of% @binI.eq_15∧type_of% @binI.eq_16∧type_of% @binI.eq_17∧type_of% @unR.eq_1∧type_of% @unR.eq_2∧type_of% @zkx.eq_1∧type_of% @zm3.eq_1∧type_of% @zku.eq_1∧type_of% @zdh.eq_1∧type_of% @zhz.eq_1∧type_of% @extR.eq_1∧type_of% @zmq.eq_1∧type_of% @eqB.eq_1∧type_of% @evU∧type_of% @zuC∧type_of% @oN.eq_1∧type_of% @oG.eq_1 :=
 ⟨@evA,@boxR.eq_1,@zov.eq_1,@zkn.eq_1,@fldR.eq_1,@binI.eq_1,@binI.eq_2,@binI.eq_3,@binI.eq_4,@binI.eq_5,@binI.eq_6,@binI.eq_7,@binI.eq_8,@binI.eq_9,@binI.eq_10,@binI.eq_11,@binI.eq_12,@binI.eq_13,@binI.eq_14,@binI.eq_15,@binI.eq_16,@binI.eq_17,@unR.eq_1,@unR.eq_2,@zkx.eq_1,@zm3.eq_1,@zku.eq_1,@zdh.eq_1,@zhz.eq_1,@extR.eq_1,@zmq.eq_1,@eqB.eq_1,@evU,@zuC,@oN.eq_1,@oG.eq_1⟩
theorem evWB:type_of% @evWA∧type_of% @and_self∧type_of% @Int.natCast_zero∧type_of% @Int.natCast_one∧type_of% @Int.cast_ofNat_Int∧type_of% @evV∧type_of% @za.eq_1∧type_of% @zsX.eq_1∧type_of% @zpE.eq_1∧type_of% @encP.eq_1 :=
 ⟨@evWA,@and_self,@Int.natCast_zero,@Int.natCast_one,@Int.cast_ofNat_Int,@evV,@za.eq_1,@zsX.eq_1,@zpE.eq_1,@encP.eq_1⟩
theorem dcd:type_of% @decide_eq_true_eq∧type_of% @decide_eq_false_iff_not∧type_of% @Bool.not_eq_true'∧type_of% @Bool.not_eq_false'∧type_of% @Bool.and_eq_true∧type_of% @Bool.or_eq_true∧type_of% @not_true_eq_false∧type_of% @not_false_eq_true :=
 ⟨@decide_eq_true_eq,@decide_eq_false_iff_not,@Bool.not_eq_true',@Bool.not_eq_false',@Bool.and_eq_true,@Bool.or_eq_true,@not_true_eq_false,@not_false_eq_true⟩
theorem lb {p:Prop} (h:p:=by first | rfl | exact (dT (by omega)).symm | exact (dF (by omega)).symm | exact decide_eq_decide.2 (by omega)):p:=h
theorem hBig:big=9223372036854775807:=rfl
theorem fin5 {p:Prop} (h:p:=by (try simp [subK,Kn.get,ziq])<;>(repeat' with_reducible apply And.intro)<;>first | rfl | omega | (simp;done)):p:=h
theorem fin6 {p:Prop} (h:p:=by ((repeat' with_reducible apply And.intro)<;>first | omega | rfl | exact zhj (fun _=>rfl) | exact Vw.it _ _ rfl | exact Vw.mp _ _ _ _ rfl | exact zH zS (by decide) ⟨rfl,rfl⟩ trivial | exact zH zS (by decide) (fun _ _=>⟨rfl,rfl⟩) trivial | (refine zj1 rfl ?_;(repeat' (first | exact zh zS | exact zap | exact zh (fun _=>rfl) | exact zh (fun _=>zl) | exact zh (fun _=>zb) | exact zt zl | exact zt zb | exact zas rfl | exact zar | exact zt rfl | refine zW ?_ ?_ | refine zm rfl ?_ | refine zm zl ?_ | refine zm zb ?_));done) | exact zd4 rfl | (refine RowV.of_flat ?_;(repeat' (first | exact zh zS | exact zap | exact zh (fun _=>rfl) | exact zh (fun _=>zl) | exact zh (fun _=>zb) | exact zt zl | exact zt zb | exact zas rfl | exact zar | exact zt rfl | refine zW ?_ ?_ | refine zm rfl ?_ | refine zm zl ?_ | refine zm zb ?_));done) | ((repeat' (first | exact zh zS | exact zap | exact zh (fun _=>rfl) | exact zh (fun _=>zl) | exact zh (fun _=>zb) | exact zt zl | exact zt zb | exact zas rfl | exact zar | exact zt rfl | refine zW ?_ ?_ | refine zm rfl ?_ | refine zm zl ?_ | refine zm zb ?_));done) | exact zgr rfl rfl (by omega) | exact zai rfl rfl (by omega) | exact zd8 rfl rfl (by omega) | exact zgo (fun _=>rfl) | exact zH (fun _=>rfl) (by decide) ⟨rfl,rfl⟩ trivial | exact zH (fun _=>rfl) (by decide) (fun _ _=>⟨rfl,rfl⟩) trivial | (simp;done))):p:=h
theorem fin7 {p:Prop} (h:p:=by ((repeat' with_reducible apply And.intro)<;>first | omega | rfl | exact zd4 rfl | (refine RowV.of_flat ?_;(repeat' (first | exact zh (fun _=>rfl) | exact zh (fun _=>zl) | exact zh (fun _=>zb) | exact zt zl | exact zt zb | exact zas rfl | exact zar | exact zt rfl | refine zW ?_ ?_ | refine zm rfl ?_ | refine zm zl ?_ | refine zm zb ?_));done) | ((repeat' (first | exact zh (fun _=>rfl) | exact zh (fun _=>zl) | exact zh (fun _=>zb) | exact zt zl | exact zt zb | exact zas rfl | exact zar | exact zt rfl | refine zW ?_ ?_ | refine zm rfl ?_ | refine zm zl ?_ | refine zm zb ?_));done) | exact zz6 rfl rfl (by omega) | exact zuU rfl rfl (by omega) | exact zwv rfl rfl (by omega) | exact zuD rfl rfl (by omega) | exact zgr rfl rfl (by omega) | exact zai rfl rfl (by omega) | exact zd8 rfl rfl (by omega) | exact zgo (fun _=>rfl) | exact zH (fun _=>rfl) (by decide) ⟨rfl,rfl⟩ trivial | exact zH (fun _=>rfl) (by decide) (fun _ _=>⟨rfl,rfl⟩) trivial | (simp;done))):p:=h
theorem fin8 {p:Prop} (h:p:=by (try simp only [evWB,Nat.reduceBEq,Nat.reduceAdd,Nat.reduceSub,Nat.reduceLeDiff,Nat.reduceLT,implies_true])<;>(repeat' with_reducible apply And.intro)<;>first | (refine zH zS (by decide) ⟨rfl,rfl⟩ ?_;(try simp only [evWB,Nat.reduceBEq,Nat.reduceAdd,Nat.reduceSub,Nat.reduceLeDiff,Nat.reduceLT,implies_true])<;>(repeat' with_reducible apply And.intro)<;>first | (refine zH zS (by decide) ⟨rfl,rfl⟩ ?_;(try simp only [evWB,Nat.reduceBEq,Nat.reduceAdd,Nat.reduceSub,Nat.reduceLeDiff,Nat.reduceLT,implies_true])<;>exact fin6;done) | exact fin6;done) | exact fin6):p:=h
theorem fin9 {p:Prop} (h:p:=by (try simp only [evWB,Nat.reduceBEq,Nat.reduceAdd,Nat.reduceSub,Nat.reduceLeDiff,Nat.reduceLT,implies_true])<;>exact fin6):p:=h
inductive MC where
 | hd (c:Int)
 | en (k b:Int)
def cm:MC→List AV
 | .hd c=>[.int .i64 c, .undef, .undef]
 | .en k b=>[.int .i64 k, .bool true, .int .i64 b]
theorem zS:∀ a,zK (cm a)=true
 | .hd _=>rfl
 | .en _ _=>rfl
def enL (ps:List (Int × Int)):List MC:=ps.map fun p=>.en p.1 p.2
def setM (c:Int) (ps:List (Int × Int)):List MC:=.hd c::enL ps
theorem zw (c:Int) (ps:List (Int × Int)):(setM c ps).map cm=[.int .i64 c, .undef, .undef]::(enL ps).map cm:=rfl
def zBO (r q:Nat) (o:Option AObj) (H:AH) (nx:Nat):ORes:=match o with
 |
  some (.row sz (hd::_) g)=>match hd with
  | [.int .i64 c,_,_]=>⟨sz=3∧g=0,True, .it nx,H.set nx 0 (.row 1 [[.mp r q],[.int .i64 c],[.int .i64 c]] 0),nx+1⟩
  | _=>bad H nx
 | _=>bad H nx
def mdTo (str:Option IntKind) (r q:Nat) (k:AV) (sz g:Nat) (hd:List AV) (es:List (List AV)) (o:Option (Option (Nat × AV))) (H:AH) (nx:Nat):ORes:=match o with
 | some (some (i,_))=>⟨sz=3∧g=0∧zfH str k,True, .tup [],H.set r q (.row 3 (hd::es.eraseIdx i) 0),nx⟩
 | some none=>⟨sz=3∧g=0∧zfH str k,True, .tup [],H,nx⟩
 | none=>bad H nx
def zBG (str:Option IntKind) (r q:Nat) (k:AV) (o:Option AObj) (H:AH) (nx:Nat):ORes:=match o with
 | some (.row sz (hd::es) g)=>mdTo str r q k sz g hd es (zeo k es 0) H nx
 | _=>bad H nx
theorem zqv {str:Option IntKind} {k:AV} {r q:Nat} {H:AH} {nx:Nat}:xopR (.mdel str) [.mp r q,k] H nx=zBG str r q k (H.get r q) H nx:=by
 show zkz str (.mp r q) k H nx=_
 simp only [zkz,zBG]
 cases H.get r q with
 | none=>rfl
 |
  some o =>
  cases o with
  | fam _ _=>rfl
  |
   row sz els g =>
   cases els with
   | nil=>rfl
   | cons hd es=>rfl
theorem zmV {r q:Nat} {H:AH} {nx:Nat}:xopR .mrange [.mp r q] H nx=zBO r q (H.get r q) H nx:=by
 show zdw (.mp r q) H nx=_
 simp only [zdw,zBO]
 cases H.get r q with
 | none=>rfl
 |
  some o =>
  cases o with
  | fam _ _=>rfl
  |
   row sz els g =>
   cases els with
   | nil=>rfl
   | cons hd es=>rfl
theorem zp4 {k:Int}:∀ {ps:List (Int × Int)} {i:Nat},zeo (.int .i64 k) ((enL ps).map cm) i=some (match ps.findIdx? (fun p=>decide (p.1=k)) with
  | some j=>some (i+j, .bool true)
  | none=>none)
 | [],i=>rfl
 |
  p::ps,i=>by
  rw [List.findIdx?_cons]
  by_cases h:k=p.1
  ·
   rw [if_pos (decide_eq_true h.symm)]
   simp only [enL,List.map_cons,cm,zeo,zsv,if_true,decide_eq_true h,Nat.add_zero]
  ·
   rw [if_neg (by simp;exact fun e=>h e.symm)]
   have e:zeo (.int .i64 k) ((enL (p::ps)).map cm) i=zeo (.int .i64 k) ((enL ps).map cm) (i+1):=by
    simp only [enL,List.map_cons,cm,zeo,zsv,if_true,decide_eq_false h]
   rw [e,zp4]
   cases ps.findIdx? (fun p=>decide (p.1=k)) with
   | none=>rfl
   |
    some j =>
    simp only [Option.map_some]
    rw [show i+1+j=i+(j+1) by omega]
theorem zkv {k:Int} {ps:List (Int × Int)} (h:k∈ps.map (·.1)):∃ j,∃ hj:j < ps.length,ps[j].1=k∧zeo (.int .i64 k) ((enL ps).map cm) 0=some (some (j, .bool true)):=by
 rw [zp4]
 cases hf:ps.findIdx? (fun p=>decide (p.1=k)) with
 |
  none =>
  obtain ⟨p,hp,rfl⟩:=List.mem_map.1 h
  have:=List.findIdx?_eq_none_iff.1 hf p hp
  simp at this
 |
  some j =>
  obtain ⟨h1,h2,_⟩:=List.findIdx?_eq_some_iff_getElem.1 hf
  exact ⟨j,h1,of_decide_eq_true h2,by simp⟩
theorem zi5 {k:Int} {ps:List (Int × Int)} (h:k∉ps.map (·.1)):zeo (.int .i64 k) ((enL ps).map cm) 0=some none:=by
 rw [zp4]
 cases hf:ps.findIdx? (fun p=>decide (p.1=k)) with
 | none=>rfl
 |
  some j =>
  obtain ⟨h1,h2,_⟩:=List.findIdx?_eq_some_iff_getElem.1 hf
  exact absurd (List.mem_map.2 ⟨_,List.getElem_mem h1,of_decide_eq_true h2⟩) h
theorem zxa {ps:List (Int × Int)} (hb:(ps.map (·.2)).Nodup) {p p':Int × Int} (hp:p∈ps) (hp':p'∈ps) (h:p.2=p'.2):p=p':=by
 induction ps with
 | nil=>cases hp
 |
  cons x ps ih =>
  rw [List.map_cons,List.nodup_cons] at hb
  by_cases h1:p∈ps
  ·
   by_cases h2:p'∈ps
   · exact ih hb.2 h1 h2
   ·
    have e:p'=x:=by simpa [h2] using hp'
    subst e
    exact absurd (show p'.2∈ps.map (fun x=>x.2) from List.mem_map.2 ⟨p,h1,h⟩) hb.1
  ·
   have e:p=x:=by simpa [h1] using hp
   by_cases h2:p'∈ps
   ·
    subst e
    exact absurd (show p.2∈ps.map (fun x=>x.2) from List.mem_map.2 ⟨p',h2,h.symm⟩) hb.1
   ·
    have e':p'=x:=by simpa [h2] using hp'
    rw [e,e']
theorem zuy {P:Program} {d:Option Nat} {rst:Rest} {drop:List Nat} {Q:QT} {K:Kn} {H:AH} {nx r rm qm:Nat} {c since st:Int} {ps sel:List (Int × Int)}
  (hr:H.get r 0=some (.row 1 ([.mp rm qm]::[.int .i64 since]::[.int .i64 st]::sel.map fun p=>[.int .i64 p.2]) 0)) (hm:H.get rm qm=some (.row 3 ((setM c ps).map cm) 0))
  (h1:since≤st) (h2:∀ p∈ps,p.2 < since) (hb:(ps.map (·.2)).Nodup) (hs:∀ p∈sel,p∈ps)
  (h4:(∀ p∈ps,p∈sel)→zat P rst drop Q (setO K d (.tup [.bool false])) H nx)
  (h5:∀ p∈ps,p∉sel→zat P rst drop Q (setO K d (.tup [.bool true, .int .i64 p.1, .bool true])) (H.set r 0 (.row 1 ([.mp rm qm]::[.int .i64 since]::[.int .i64 c]::(sel++[p]).map fun p=>[.int .i64 p.2]) 0)) nx) :
  zz5 P (.it r) d rst drop Q K H nx:=by
 have hin:∀ p∈ps,zrM (.int .i64 p.2) (sel.map fun p=>[.int .i64 p.2])=decide (p∈sel):=by
  intro p hp
  unfold zrM
  rw [Bool.eq_iff_iff,List.any_eq_true,decide_eq_true_eq]
  constructor
  ·
   rintro ⟨s,hs1,hs2⟩
   obtain ⟨p',hp',rfl⟩:=List.mem_map.1 hs1
   simp only [decide_eq_true_eq] at hs2
   have:p'=p:=by
    exact zxa hb (hs p' hp') hp hs2
   rw [← this];exact hp'
  ·
   intro h
   exact ⟨_,List.mem_map.2 ⟨p,h,rfl⟩,by simp⟩
 have hleft:zsR (sel.map fun p=>[.int .i64 p.2]) ((enL ps).map cm)=(enL (ps.filter fun p => !decide (p∈sel))).map cm:=by
  unfold zsR enL
  simp only [List.map_map]
  rw [List.filter_map]
  congr 1
  refine List.filter_congr fun p hp=>?_
  simp only [Function.comp,cm,List.getD_cons_succ,List.getD_cons_zero]
  rw [hin p hp]
 unfold zz5 zjI
 simp only
 rw [hr]
 simp only
 rw [hm,zw]
 simp only
 refine ⟨⟨trivial,trivial,trivial,trivial,h1,fun e he=>?_,fun s hs'=>?_⟩,fun hn=>h4 fun p hp=>?_,fun e he=>?_⟩
 ·
  obtain ⟨x,hx,rfl⟩:=List.mem_map.1 he
  obtain ⟨p,hp,rfl⟩:=List.mem_map.1 hx
  exact ⟨p.2,rfl,h2 p hp⟩
 ·
  obtain ⟨p,hp,rfl⟩:=List.mem_map.1 hs'
  exact ⟨p.2,rfl⟩
 ·
  rw [hleft] at hn
  have hf:ps.filter (fun p => !decide (p∈sel))=[]:=by simpa [enL] using hn
  have:=List.filter_eq_nil_iff.1 hf p hp
  simpa using this
 ·
  rw [hleft] at he
  obtain ⟨x,hx,rfl⟩:=List.mem_map.1 he
  obtain ⟨p,hp,rfl⟩:=List.mem_map.1 hx
  rw [List.mem_filter] at hp
  have:=h5 p hp.1 (by simpa using hp.2)
  simpa [cm,zAG] using this
theorem zuV {b:Int}:∀ {ps:List (Int × Int)} {p:Int × Int},p∈ps→p.2=b→(ps.map (·.2)).Nodup→ztk b ((enL ps).map cm)=some (.int .i64 p.1, .bool true)
 | [],_,h,_,_=>by cases h
 |
  x::ps,p,h,hb,hn=>by
  rw [List.map_cons,List.nodup_cons] at hn
  show ztk b (cm (.en x.1 x.2)::(enL ps).map cm)=_
  simp only [cm,ztk]
  by_cases hx:x.2=b
  ·
   rw [if_pos hx]
   by_cases h2:p∈ps
   · exact absurd (show x.2∈ps.map (fun x=>x.2) from List.mem_map.2 ⟨p,h2,hb.trans hx.symm⟩) hn.1
   ·
    have e:p=x:=by simpa [h2] using h
    rw [e]
  ·
   rw [if_neg hx]
   refine zuV ?_ hb hn.2
   rcases List.mem_cons.1 h with rfl | h
   · exact absurd hb hx
   · exact h
theorem zuo {H:AH} {nx r rm qm:Nat} {c since:Int} {ps sel:List (Int × Int)} {p:Int × Int} (hr:H.get r 0=some (.row 1 ([.mp rm qm]::[.int .i64 since]::[.int .i64 c]::(sel++[p]).map fun p=>[.int .i64 p.2]) 0))
  (hm:H.get rm qm=some (.row 3 ((setM c ps).map cm) 0)) (hb:(ps.map (·.2)).Nodup) (hp:p∈ps):xopR .ment [.it r] H nx=⟨True,True, .tup [.int .i64 p.1, .bool true],H,nx⟩:=by
 show zqr (.it r) H nx=_
 unfold zqr
 simp only
 rw [hr]
 simp only [List.map_append,List.map_cons,List.map_nil,List.getLast?_append,List.getLast?_singleton,Option.some_or]
 rw [hm,zw]
 simp only [zuV hp rfl hb]
 simp
theorem evM:type_of% @zqv∧type_of% @zmV:=⟨@zqv,@zmV⟩
theorem zqF {r q sz g:Nat} {c:Int} {u u':AV} {es:List (List AV)} {H:AH} {nx:Nat}:zBO r q (some (.row sz ([.int .i64 c,u,u']::es) g)) H nx=⟨sz=3∧g=0,True, .it nx,H.set nx 0 (.row 1 [[.mp r q],[.int .i64 c],[.int .i64 c]] 0),nx+1⟩:=rfl
theorem zsm {str:Option IntKind} {r q sz g:Nat} {k:AV} {hd:List AV} {es:List (List AV)} {H:AH} {nx:Nat}:zBG str r q k (some (.row sz (hd::es) g)) H nx=mdTo str r q k sz g hd es (zeo k es 0) H nx:=rfl
abbrev Fds:=List (Nat × Nat × Nat)
def fat:Fds→Nat→Nat→Option Nat
 | [],_,_=>none
 | (F,q,N)::t,r',q'=>bif Nat.beq F r'&&Nat.beq q q' then some N else fat t r' q'
def fsig (t:Tab) (fs:Fds):Nat→Nat→Option (Nat × Nat × Nat):=fun r' q'=>match fat fs r' q' with
 | some N=>some (N,0,0)
 | none=>t.sig r' q'
def fOk (n:Nat) (t:Tab):Fds→Bool
 | []=>true
 | (F,_,N)::u=>Nat.blt F n && !(memN (t.map (·.2.1)) N) && !(memN (u.map (·.2.2)) N)&&fOk n t u
def noQ:Nat→Nat→Prop:=fun _ _=>False
theorem zo6 {n:Nat} {t:Tab}:∀ {fs:Fds},fOk n t fs=true→∀ {r' q' N},fat fs r' q'=some N→r' < n∧memN (t.map (·.2.1)) N=false∧N∈fs.map (·.2.2)
 | [],_,r',q',N,h=>by cases h
 |
  (F,q,M)::u,hk,r',q',N,h=>by
  simp only [fOk,Bool.and_eq_true,Bool.not_eq_true'] at hk
  obtain ⟨⟨⟨h1,h2⟩,h3⟩,h4⟩:=hk
  simp only [fat] at h
  cases hb:Nat.beq F r'&&Nat.beq q q' with
  |
   true =>
   rw [hb] at h
   cases h
   rw [Bool.and_eq_true] at hb
   have:=zj hb.1
   subst this
   exact ⟨by simpa [Nat.blt_eq] using h1,h2,by simp⟩
  |
   false =>
   rw [hb] at h
   obtain ⟨a1,a2,a3⟩:=zo6 h4 h
   exact ⟨a1,a2,by simp only [List.map_cons,List.mem_cons];exact .inr a3⟩
theorem zxj {n:Nat} {t:Tab}:∀ {fs:Fds},fOk n t fs=true→∀ {r q r' q' N},fat fs r q=some N→fat fs r' q'=some N→r=r'∧q=q'
 | [],_,r,q,r',q',N,h,_=>by cases h
 |
  (F,p,M)::u,hk,r,q,r',q',N,h,h'=>by
  have hk':=hk
  simp only [fOk,Bool.and_eq_true,Bool.not_eq_true'] at hk'
  obtain ⟨⟨⟨h1,h2⟩,h3⟩,h4⟩:=hk'
  simp only [fat] at h h'
  cases hb:Nat.beq F r&&Nat.beq p q with
  |
   true =>
   cases hc:Nat.beq F r'&&Nat.beq p q' with
   |
    true =>
    rw [Bool.and_eq_true] at hb hc
    exact ⟨(zj hb.1).symm.trans (zj hc.1),(zj hb.2).symm.trans (zj hc.2)⟩
   |
    false =>
    rw [hb] at h
    rw [hc] at h'
    cases h
    exact absurd ((zN _ _).2 (zo6 h4 h').2.2) (by rw [h3];exact Bool.false_ne_true)
  |
   false =>
   cases hc:Nat.beq F r'&&Nat.beq p q' with
   |
    true =>
    rw [hb] at h
    rw [hc] at h'
    cases h'
    exact absurd ((zN _ _).2 (zo6 h4 h).2.2) (by rw [h3];exact Bool.false_ne_true)
   |
    false =>
    rw [hb] at h
    rw [hc] at h'
    exact zxj h4 h h'
def ztA (H HH:AH) (σ:Nat→Nat→Option (Nat × Nat × Nat)) (n:Nat):AH→Prop
 | []=>True
 | (r', .row sz els2 g2)::u=>Nat.blt r' n=true∧(match σ r' 0 with
   | some (r,q,d)=>∃ els,H.get r q=some (.row sz els (g2+d))∧RowV H HH σ noQ els els2
   | none=>els2=[]∧g2=0)∧ztA H HH σ n u
 | (r', .fam sz ins)::u=>Nat.blt r' n=true∧(∀ (i:Nat) (p:List (List AV) × Nat),ins[i]? = some p→match σ r' (i+1) with
   | some (r,q,d)=>∃ els,H.get r q=some (.row sz els (p.2+d))∧RowV H HH σ noQ els p.1
   | none=>p=([],0))∧ztA H HH σ n u
def zuQ (H HH:AH) (σ:Nat→Nat→Option (Nat × Nat × Nat)):Kn→Kn→Prop
 | [],_=>True
 | (j,v)::u,K=>Vw H HH σ noQ true (K.get j) v∧zuQ H HH σ u K
theorem zpp {H HH:AH} {σ:Nat→Nat→Option (Nat × Nat × Nat)} {K:Kn}:∀ {K2:Kn},zuQ H HH σ K2 K→∀ i,Vw H HH σ noQ true (K.get i) (K2.get i)
 | [],_,i=>.undef _ _
 |
  (j,v)::u,h,i=>by
  simp only [Kn.get]
  cases hb:Nat.beq j i with
  | true=>rw [← zj hb];exact h.1
  | false=>exact zpp h.2 i
theorem zq3 {H HH:AH} {σ:Nat→Nat→Option (Nat × Nat × Nat)} {n:Nat}:∀ {H2:AH},ztA H HH σ n H2→∀ r o,H2.look r=some o→r < n
 | [],_,r,o,h=>by cases h
 |
  (r',ob)::u,h,r,o,hl=>by
  have hh:Nat.blt r' n=true∧ztA H HH σ n u:=by cases ob<;>exact ⟨h.1,h.2.2⟩
  simp only [AH.look] at hl
  cases hb:Nat.beq r' r with
  | true=>rw [← zj hb];simpa [Nat.blt_eq] using hh.1
  | false=>rw [hb] at hl;exact zq3 hh.2 r o hl
theorem zsl {H HH:AH} {σ:Nat→Nat→Option (Nat × Nat × Nat)} {n:Nat}:∀ {H2:AH},ztA H HH σ n H2→∀ r' q' sz els2 g2,H2.get r' q'=some (.row sz els2 g2) →
  (∃ r q d els,σ r' q'=some (r,q,d)∧H.get r q=some (.row sz els (g2+d))∧RowV H HH σ noQ els els2)∨(σ r' q'=none∧els2=[]∧g2=0)
 | [],_,r',q',sz,els2,g2,h=>by cases h
 |
  (r0,ob)::u,h,r',q',sz,els2,g2,hg=>by
  have hh:ztA H HH σ n u:=by cases ob<;>exact h.2.2
  unfold AH.get at hg
  simp only [AH.look] at hg
  cases hb:Nat.beq r0 r' with
  | false=>rw [hb] at hg;exact zsl hh r' q' sz els2 g2 hg
  |
   true =>
   rw [hb] at hg
   have:=zj hb
   subst this
   simp only [cond_true,Option.bind_some] at hg
   cases ob with
   |
    row sz0 els0 g0 =>
    cases q' with
    | succ q=>cases hg
    |
     zero =>
     simp only [AObj.part,Option.some.injEq,AObj.row.injEq] at hg
     obtain ⟨rfl,rfl,rfl⟩:=hg
     have h2:=h.2.1
     cases ht:σ r0 0 with
     | none=>rw [ht] at h2;exact .inr ⟨rfl,h2⟩
     |
      some p =>
      obtain ⟨r,q,d⟩:=p
      rw [ht] at h2
      obtain ⟨els,h3,h4⟩:=h2
      exact .inl ⟨r,q,d,els,rfl,h3,h4⟩
   |
    fam sz0 ins =>
    cases q' with
    | zero=>cases hg
    |
     succ i =>
     simp only [AObj.part] at hg
     obtain ⟨p,hp,he⟩:=Option.map_eq_some_iff.1 hg
     cases he
     have h2:=h.2.1 i p hp
     cases ht:σ r0 (i+1) with
     |
      none =>
      rw [ht] at h2
      simp only at h2
      rw [h2]
      exact .inr ⟨rfl,rfl,rfl⟩
     |
      some p' =>
      obtain ⟨r,q,d⟩:=p'
      rw [ht] at h2
      obtain ⟨els,h3,h4⟩:=h2
      exact .inl ⟨r,q,d,els,rfl,h3,h4⟩
theorem Ent.fold {K K2:Kn} {H H2:AH} {nx nx2:Nat} (t:Tab) (fs:Fds) (hok:t.ok nx2 []=true) (hf:fOk nx2 t fs=true) (hr:ztA H H2 (fsig t fs) nx2 H2) (hK:zuQ H H2 (fsig t fs) K2 K):Ent 0 K H nx K2 H2 nx2:=by
 have tab:∀ {r' q' x},t.sig r' q'=some x→∃ r d,t.at r'=some (r,d)∧x=(r,q',d):=by
  intro r' q' x h
  unfold Tab.sig at h
  cases e1:t.at r' with
  | none=>rw [e1] at h;cases h
  | some p1=>rw [e1] at h;cases h;exact ⟨p1.1,p1.2,rfl,rfl⟩
 refine Ent.view (fsig t fs) noQ ⟨Nat.zero_le _,fun r q h=>absurd h (Nat.not_lt_zero _),?_,fun _ _ _ _ _ _ h=>h,?_,zq3 hr,zsl hr⟩ (zpp hK)
 ·
  intro r1 q1 r2 q2 r q d1 d2 h1 h2
  unfold fsig at h1 h2
  cases e1:fat fs r1 q1 with
  |
   some N =>
   rw [e1] at h1
   cases h1
   cases e2:fat fs r2 q2 with
   | some M=>rw [e2] at h2;cases h2;exact zxj hf e1 e2
   |
    none =>
    rw [e2] at h2
    obtain ⟨r0,d0,h3,h4⟩:=tab h2
    cases h4
    have:=(Tab.ok_at hok h3).2.2
    exact absurd ((zN _ _).2 this) (by rw [(zo6 hf e1).2.1];exact Bool.false_ne_true)
  |
   none =>
   rw [e1] at h1
   obtain ⟨r0,d0,h3,h4⟩:=tab h1
   cases h4
   cases e2:fat fs r2 q2 with
   |
    some M =>
    rw [e2] at h2
    cases h2
    have:=(Tab.ok_at hok h3).2.2
    exact absurd ((zN _ _).2 this) (by rw [(zo6 hf e2).2.1];exact Bool.false_ne_true)
   |
    none =>
    rw [e2] at h2
    obtain ⟨r0',d0',h5,h6⟩:=tab h2
    cases h6
    exact ⟨Tab.ok_inj hok h3 h5,rfl⟩
 ·
  intro r' q' x h
  unfold fsig at h
  cases e1:fat fs r' q' with
  | some N=>exact (zo6 hf e1).1
  |
   none =>
   rw [e1] at h
   obtain ⟨r0,d0,h3,h4⟩:=tab h
   exact (Tab.ok_at hok h3).1
theorem zj1 {H HH:AH} {σ:Nat→Nat→Option (Nat × Nat × Nat)} {D:Nat→Nat→Prop} {r q r' q':Nat} {tl:List (List AV)} (hs:σ r' q'=some (r,q,0)) (h:zB tl):RowV H HH σ D ([.mp r q]::tl) ([.mp r' q']::tl):=by
 obtain ⟨_,h2⟩:=RowV.of_flat (H:=H) (HH:=HH) (σ:=σ) (D:=D) h
 refine ⟨by simp,fun i c2 hi=>?_⟩
 cases i with
 |
  zero =>
  cases hi
  refine ⟨_,rfl,rfl,fun j a b h1 h2=>?_⟩
  cases j with
  | zero=>cases h1;cases h2;exact .mp _ _ _ _ hs
  | succ j=>cases h1
 | succ i=>exact h2 i c2 hi
def AV.ref0:AV→Bool
 | .undef | .int .. | .bool _ | .str _ | .nilp | .nilfn | .nilsl | .cut | .nilmp | .own .. | .ptr .. | .mp .. | .it _=>true
 | _=>false
def AV.refs:AV→Bool
 | .agg l=>l.all AV.ref0
 | .tup l=>l.all AV.ref0
 | a=>a.ref0
theorem ztJ {w:World} {M M':Nat→Prop} {ι:Inj} {v:Value} {a:AV} (ha:a.ref0=true) (h:VR w M ι v a):VR w M' ι v a:=by
 cases h<;>first | (cases ha;done) | (constructor<;>assumption)
theorem ref_vr {w:World} {M M':Nat→Prop} {ι:Inj} {v:Value} {a:AV} (ha:a.refs=true) (h:VR w M ι v a):VR w M' ι v a:=by
 cases h with
 | agg _ cs asv hs h1 hv=>exact .agg _ _ _ hs h1 (fun i v a h2 h3=>ztJ (List.all_eq_true.1 ha a (List.mem_of_getElem? h3)) (hv i v a h2 h3))
 | tup _ cs asv hs hv=>exact .tup _ _ _ hs (fun i v a h2 h3=>ztJ (List.all_eq_true.1 ha a (List.mem_of_getElem? h3)) (hv i v a h2 h3))
 | undef=>exact .undef _ _
 | int _ _ _ h=>exact .int _ _ _ h
 | bool=>exact .bool _ _
 | str _ _ h=>exact .str _ _ h
 | nilp=>exact .nilp _
 | nilfn=>exact .nilfn _
 | nilsl=>exact .nilsl _
 | cut=>exact .cut _ _
 | nilmp=>exact .nilmp _
 | own _ r q g off n a c l h hm hn hc hx=>exact .own _ r q g off n a c l h hm hn hc hx
 | ptr _ r q g i f l h hm=>exact .ptr _ r q g i f l h hm
 | mp _ r q l h hm=>exact .mp _ r q l h hm
 | it _ r l h hm=>exact .it _ r l h hm
 | _=>cases ha
def zpy (els:List (List AV)):Prop:=∀ c∈els,c.all AV.ref0=true
def AObj.refs:AObj→Prop
 | .row _ els _=>zpy els
 | .fam _ ins=>∀ p∈ins,zpy p.1
def AH.refs:AH→Prop
 | []=>True
 | (_,o)::t=>o.refs∧AH.refs t
theorem zrX:∀ {H:AH},H.refs→∀ {r:Nat} {o:AObj},H.look r=some o→o.refs
 | [],_,r,o,h=>by cases h
 |
  (j,o')::t,h,r,o,hl=>by
  simp only [AH.look] at hl
  cases hb:Nat.beq j r with
  | true=>rw [hb] at hl;cases hl;exact h.1
  | false=>rw [hb] at hl;exact zrX h.2 hl
theorem zze {H:AH} (h:H.refs) {r q sz g:Nat} {els:List (List AV)} (hg:H.get r q=some (.row sz els g)):zpy els:=by
 unfold AH.get at hg
 cases hl:H.look r with
 | none=>rw [hl] at hg;cases hg
 |
  some o =>
  rw [hl] at hg
  have ho:=zrX h hl
  cases o with
  |
   row sz0 els0 g0 =>
   cases q with
   | succ q=>cases hg
   | zero=>cases hg;exact ho
  |
   fam sz0 ins =>
   cases q with
   | zero=>cases hg
   |
    succ i =>
    obtain ⟨p,hp,he⟩:=Option.map_eq_some_iff.1 hg
    cases he
    exact ho p (List.mem_of_getElem? hp)
theorem zzU {α:Type} {f:α→List AV} {l:List α} (h:∀ a,(f a).all AV.ref0=true):zpy (l.map f):=by
 intro c hc
 obtain ⟨a,_,rfl⟩:=List.mem_map.1 hc
 exact h a
variable {P:Program} {H:AH} {nx:Nat} {D:Nat→Nat→Prop}
theorem zu6 {f:FuncId} {asv bs:List AV} {Post k:AV→AH→Nat→Prop} (h:zad P f bs [] 0 Post) (ha:Lend H D asv bs) (hq:∀ v H' nx',Post v H' nx'→v.refs=true∧H'.refs)
  (hk:∀ v H' nx',Post v H' nx'→k (v.ren (Tab.to [] nx)) (H.over [] nx H') (nx+nx')):zad P f asv H nx k:=by
 intro w L ι vs rel hv
 refine (h w (zgY L ι H D) noI vs (.empty (zpo rel)) (ha.vrs rel hv)).mono fun e w' ⟨v,ι',H',nx',a,h3,h4,_,h6,h7⟩=>?_
 obtain ⟨q1,q2⟩:=hq _ _ _ h7
 have hsz:∀ b,L b∨othr ι H [] nx b→b < w.heap.size:=by
  rintro b (hb | hb)
  · exact rel.Lsz b hb
  ·
   obtain ⟨r,q,sz,els,g,l,_,h1,h2,h3,h5⟩:=hb
   exact rel.live_lt ⟨r,q,sz,els,g,l,h1,h2,h3,h5⟩
 have st:Step w (fun b=>L b∨othr ι H [] nx b) noI [] 0 w' ι' H' nx':=by
  refine ⟨h4.ext,h4.inj,⟨fun r q sz els g hg=>?_,h4.rel.apart,fun b hb hL=>?_,h4.rel.idx,h4.rel.dom,h4.rel.gen,fun b hb=>Nat.lt_of_lt_of_le (hsz b hb) h4.ext.size⟩,h4.lv⟩
  ·
   obtain ⟨l,h1,ok⟩:=h4.rel.row _ _ _ _ _ hg
   refine ⟨l,h1,ok.view (fun _=>rfl) rfl (fun i c hi=>⟨c,hi,rfl,fun j a a' hj hj' v hv=>?_⟩)⟩
   rw [hj] at hj'
   cases hj'
   exact ztJ (List.all_eq_true.1 (zze q2 hg c (List.mem_of_getElem? hi)) a (List.mem_of_getElem? hj)) hv
  ·
   rcases h4.lv b hb with h | h
   · exact zid b h
   ·
    have:=hsz b hL
    omega
 obtain ⟨h8,h9⟩:=Step.over (tb:=[]) rfl rfl rel (fun r q g l _ hn=>absurd rfl hn) (fun b hb=>(zid b hb).elim) st
 exact ⟨v,_,_,_,_,h3,h8,Nat.le_add_right _ _,h9 v a (ref_vr q1 h6),hk _ _ _ h7⟩
section
variable {P:Program}
structure DrawOk2 (rk:Nat→Nat) (ops:List AOper) (deps:List (List Nat)) (Ls:List Nat) (A:List (List Nat)) (St:List (List Nat)) (plan:Plan) (ks:List Nat):Prop where
 low:∀ (i:Nat),i < ops.length→∀ j∈deps.getD i [],j < ops.length∧rk j < rk i
 clo:∀ (i:Nat),i < ops.length→∀ j∈A.getD i [],j∈deps.getD i []∨∃ d∈deps.getD i [],j∈A.getD d []
 one:∀ (i j d:Nat),i < ops.length→j < ops.length→(ops.getD i default).dst=some d→(ops.getD j default).dst=some d→i=j
 keys:∀ k∈ks,∃ o∈ops,o.dst=some k
 look:∀ (i:Nat),i < ops.length→∀ t∈(ops.getD i default).looks,(∃ j∈A.getD i [],(ops.getD j default).dst=some t)∨∀ o∈ops,o.dst≠some t
 lin:∀ i∈Ls,i < ops.length
 st0:[]∈St
 stc:∀ S∈St,∀ i∈Ls,zcd Ls A i S=true→zhT Ls i S∈St
 plan:∀ (i:Nat),i < ops.length→((ops.getD i default).fixed=true∧(ops.getD i default).sees=false∧i∉Ls∧anyP plan i=true) ∨
  (i∉Ls∧∀ S∈St,zcd Ls A i S=true→memP plan i S S=true)∨(i∈Ls∧∀ S∈St,zcd Ls A i S=true→memP plan i S (zhT Ls i S)=true)
def zqd (rk:Nat→Nat) (ops:List AOper) (deps:List (List Nat)) (Ls:List Nat) (A:List (List Nat)) (St:List (List Nat)) (plan:Plan) (ks:List Nat):Bool :=
 allB ops.length (fun i=>(deps.getD i []).all fun j=>Nat.blt j ops.length&&Nat.blt (rk j) (rk i)) &&
 allB ops.length (fun i=>(A.getD i []).all fun j=>memN (deps.getD i []) j||(deps.getD i []).any fun d=>memN (A.getD d []) j) &&
 allB ops.length (fun i=>allB i fun j=>match (ops.getD i default).dst,(ops.getD j default).dst with | some d,some e => !Nat.beq d e | _,_=>true) &&
 ks.all (fun k=>ops.any fun o=>match o.dst with | some d=>Nat.beq d k | none=>false) &&
 allB ops.length (fun i=>(ops.getD i default).looks.all fun t=>((A.getD i []).any fun j=>match (ops.getD j default).dst with | some d=>Nat.beq d t | none=>false)||ops.all fun o=>match o.dst with | some d => !Nat.beq d t | none=>true) &&
 Ls.all (fun i=>Nat.blt i ops.length) &&
 memS St [] &&
 St.all (fun S=>Ls.all fun i => !zcd Ls A i S||memS St (zhT Ls i S)) &&
 allB ops.length (fun i=>bif memN Ls i then St.all fun S => !zcd Ls A i S||memP plan i S (zhT Ls i S)
  else ((ops.getD i default).fixed&&(!(ops.getD i default).sees&&anyP plan i))||St.all fun S => !zcd Ls A i S||memP plan i S S)
theorem zo9 {rk:Nat→Nat} {ops:List AOper} {deps:List (List Nat)} {Ls:List Nat} {A:List (List Nat)} {St:List (List Nat)} {plan:Plan} {ks:List Nat} (h:zqd rk ops deps Ls A St plan ks=true):DrawOk2 rk ops deps Ls A St plan ks:=by
 unfold zqd at h
 simp only [Bool.and_eq_true] at h
 obtain ⟨⟨⟨⟨⟨⟨⟨⟨h1,h2⟩,h3⟩,h4⟩,h5⟩,h6⟩,h7⟩,h8⟩,h9⟩:=h
 have hone:∀ i j d,i < ops.length→j < i→(ops.getD i default).dst=some d→(ops.getD j default).dst=some d→False:=fun i j d hi hj e1 e2=>by
  have:=zaa (zaa h3 hi) hj
  rw [e1,e2] at this
  simp [zaA] at this
 constructor
 ·
  intro i hi j hj
  have:=List.all_eq_true.1 (zaa h1 hi) j hj
  rw [Bool.and_eq_true] at this
  exact ⟨Nat.le_of_ble_eq_true this.1,Nat.le_of_ble_eq_true this.2⟩
 ·
  intro i hi j hj
  have:=List.all_eq_true.1 (zaa h2 hi) j hj
  rcases Bool.or_eq_true_iff.1 this with this | this
  · exact .inl ((zN _ _).1 this)
  ·
   obtain ⟨d,hd,hm⟩:=List.any_eq_true.1 this
   exact .inr ⟨d,hd,(zN _ _).1 hm⟩
 ·
  intro i j d hi hj e1 e2
  rcases Nat.lt_trichotomy i j with h | h | h
  · exact (hone j i d hj h e2 e1).elim
  · exact h
  · exact (hone i j d hi h e1 e2).elim
 ·
  intro k hk
  obtain ⟨o,ho,hd⟩:=List.any_eq_true.1 (List.all_eq_true.1 h4 k hk)
  refine ⟨o,ho,?_⟩
  cases e:o.dst with
  | none=>rw [e] at hd;cases hd
  | some d=>rw [e] at hd;rw [zj hd]
 ·
  intro i hi t ht
  have:=List.all_eq_true.1 (zaa h5 hi) t ht
  rcases Bool.or_eq_true_iff.1 this with this | this
  ·
   obtain ⟨j,hj,hd⟩:=List.any_eq_true.1 this
   refine .inl ⟨j,hj,?_⟩
   cases e:(ops.getD j default).dst with
   | none=>rw [e] at hd;cases hd
   | some d=>rw [e] at hd;rw [zj hd]
  ·
   refine .inr fun o ho e=>?_
   have:=List.all_eq_true.1 this o ho
   rw [e] at this
   simp [zaA] at this
 ·
  intro i hi
  exact Nat.le_of_ble_eq_true (List.all_eq_true.1 h6 i hi)
 · exact zkN h7
 ·
  intro S hS i hi hc
  exact zkN (impB (List.all_eq_true.1 (List.all_eq_true.1 h8 S hS) i hi) hc)
 ·
  intro i hi
  have:=zaa h9 hi
  cases hm:memN Ls i with
  |
   true =>
   rw [hm] at this
   exact .inr (.inr ⟨(zN _ _).1 hm,fun S hS hc=>impB (List.all_eq_true.1 this S hS) hc⟩)
  |
   false =>
   rw [hm] at this
   have hno:=zi2 hm
   rcases Bool.or_eq_true_iff.1 this with this | this
   ·
    simp only [Bool.and_eq_true,Bool.not_eq_true'] at this
    exact .inl ⟨this.1,this.2.1,hno,this.2.2⟩
   · exact .inr (.inl ⟨hno,fun S hS hc=>impB (List.all_eq_true.1 this S hS) hc⟩)
theorem zoc {rk:Nat→Nat} {ops:List AOper} {deps:List (List Nat)} {Ls:List Nat} {A:List (List Nat)} {St:List (List Nat)} {plan:Plan} {ks:List Nat} (ok:DrawOk2 rk ops deps Ls A St plan ks) {l:List Bool}
  (hc:∀ i,i < ops.length→getB l i=true→∀ j∈deps.getD i [],getB l j=true):∀ (i:Nat),i < ops.length→(∀ j∈deps.getD i [],getB l j=true)→∀ j∈A.getD i [],getB l j=true:=by
 intro i
 generalize hr:rk i=r
 induction r using Nat.strongRecOn generalizing i with
 |
  _ r ih =>
  intro hi hd j hj
  rcases ok.clo i hi j hj with h | ⟨d,h1,h2⟩
  · exact hd j h
  ·
   obtain ⟨l1,l2⟩:=ok.low i hi d h1
   exact ih (rk d) (by omega) d rfl l1 (hc d l1 (hd d h1)) j h2
theorem zz8 {rk:Nat→Nat} {ops:List AOper} {deps:List (List Nat)} {Ls:List Nat} {A St:List (List Nat)} {plan:Plan} {ks:List Nat} {Kf:Kn} {hs:List Nat→AH × Nat} (ok:DrawOk2 rk ops deps Ls A St plan ks) (hp:zqe P ops Kf hs plan)
  {l:List Bool} {K:Kn} {H:AH} {nx i:Nat} (hl:l.length=ops.length) (inv:DInv ops deps Ls St Kf hs l K H nx) (hi:i < ops.length) (hr:zaj deps l i=true) :
  ExK P false (ops.getD i default) K H nx (DInv ops deps Ls St Kf hs (l.set i true)):=by
 obtain ⟨hun,hdeps⟩:=zag.1 hr
 have hA:=zoc ok inv.clo i hi hdeps
 have hlk:∀ t∈(ops.getD i default).looks,K.get t=Kf.get t:=fun t ht=>by
  rcases ok.look i hi t ht with ⟨j,hj,hd⟩ | h
  ·
   have hjl:=hA j hj
   have hjn:j < ops.length:=by
    apply Classical.byContradiction
    intro hcon
    unfold getB at hjl
    rw [List.getD_eq_getElem?_getD,List.getElem?_eq_none (by omega)] at hjl
    cases hjl
   exact inv.done j t hjn hjl hd
  · exact inv.rest t h
 have hcomp:zcd Ls A i (Ls.filter (getB l))=true:=by
  unfold zcd
  simp only [Bool.and_eq_true,Bool.not_eq_true',List.all_eq_true,Bool.or_eq_true]
  refine ⟨?_,fun m hm=>?_,fun m hm=>?_⟩
  ·
   cases hb:memN (Ls.filter (getB l)) i with
   | false=>rfl
   |
    true =>
    have:=(List.mem_filter.1 ((zN _ _).1 hb)).2
    rw [hun] at this
    cases this
  ·
   cases hb:memN (A.getD i []) m with
   | false=>exact .inl rfl
   | true=>exact .inr ((zN _ _).2 (List.mem_filter.2 ⟨hm,hA m ((zN _ _).1 hb)⟩))
  ·
   obtain ⟨hmL,hml⟩:=List.mem_filter.1 hm
   cases hb:memN (A.getD m []) i with
   | false=>rfl
   |
    true =>
    have:=zoc ok inv.clo m (ok.lin m hmL) (inv.clo m (ok.lin m hmL) hml) i ((zN _ _).1 hb)
    rw [hun] at this
    cases this
 have key:∃ b,zma P Kf (ops.getD i default) (H,nx) b∧b=hs (Ls.filter (getB (l.set i true)))∧Ls.filter (getB (l.set i true))∈St:=by
  have notin:i∉Ls→Ls.filter (getB (l.set i true))=Ls.filter (getB l):=fun hni=>by
   refine List.filter_congr fun m hm=>?_
   rw [zdq (by omega),if_neg (fun e:m=i=>hni (by rw [← e];exact hm))]
  rcases ok.plan i hi with ⟨hf,hse,hni,ha⟩ | ⟨hni,hk⟩ | ⟨hin,hk⟩
  ·
   obtain ⟨b,hb⟩:=zr1 hp ha
   refine ⟨(H,nx),?_,by rw [notin hni];exact inv.rows,by rw [notin hni];exact inv.here⟩
   unfold zma zat at hb
   simp only [awpT] at hb
   have h1:=zqm (k':=fun ρ H2 nx2=>∀ d,(ops.getD i default).dst=some d→ρ d=Kf.get d) (fun K2 H2 nx2 hh d e=>by
    have h3:=hh.1
    rw [e] at h3
    have h4:Kn.get _ d=_:=h3
    rw [zfN] at h4
    exact h4) hb
   obtain ⟨v,hy,hv⟩:=zko hf h1
   exact zq6 hf (zqa (H':=H) (nx':=nx) hse hy) hv
  ·
   refine ⟨(H,nx),?_,by rw [notin hni];exact inv.rows,by rw [notin hni];exact inv.here⟩
   have:=zoj hp (hk _ inv.here hcomp)
   rw [← inv.rows] at this
   exact this
  ·
   have hnx:zhT Ls i (Ls.filter (getB l))=Ls.filter (getB (l.set i true)):=by
    unfold zhT
    refine List.filter_congr fun m hm=>?_
    rw [zdq (by omega)]
    by_cases hmi:m=i
    · subst hmi;simp [zaA]
    ·
     rw [if_neg hmi,zcC hmi,Bool.false_or]
     cases hb:getB l m with
     | true=>exact (zN _ _).2 (List.mem_filter.2 ⟨hm,hb⟩)
     |
      false =>
      cases hb2:memN (Ls.filter (getB l)) m with
      | false=>rfl
      |
       true =>
       have:=(List.mem_filter.1 ((zN _ _).1 hb2)).2
       rw [hb] at this
       cases this
   have h1:=zoj hp (hk _ inv.here hcomp)
   have h2:=ok.stc _ inv.here i hin hcomp
   rw [hnx] at h1 h2
   rw [← inv.rows] at h1
   exact ⟨_,h1,rfl,h2⟩
 obtain ⟨b,hb,hbe,hbs⟩:=key
 refine ziW (fun K2 H2 nx2 hh=>?_) (zsT hlk hb)
 obtain ⟨h1,h2,h3⟩:=hh
 refine ⟨?_,?_,?_,hbs,?_⟩
 ·
  intro j hj hjl m hm
  rw [zdq (by omega)] at hjl ⊢
  by_cases hmi:m=i
  · rw [if_pos hmi]
  ·
   rw [if_neg hmi]
   by_cases hji:j=i
   · subst hji;exact hdeps m hm
   · rw [if_neg hji] at hjl;exact inv.clo j hj hjl m hm
 ·
  intro j d hj hjl hd
  rw [zdq (by omega)] at hjl
  by_cases hji:j=i
  ·
   subst hji
   rw [hd] at h1
   exact h1
  ·
   rw [if_neg hji] at hjl
   rw [h2 d (fun e=>hji (ok.one j i d hj hi hd e))]
   exact inv.done j d hj hjl hd
 ·
  intro t ht
  rw [h2 t (ht _ (zpU hi))]
  exact inv.rest t ht
 · rw [← hbe,h3]
theorem all2 {rk:Nat→Nat} {ops:List AOper} {deps:List (List Nat)} {Ls:List Nat} {A St:List (List Nat)} {plan:Plan} {ks:List Nat} (ok:DrawOk2 rk ops deps Ls A St plan ks) {l:List Bool} (hnone:∀ i,i < ops.length→zaj deps l i=false):∀ i,i < ops.length→getB l i=true:=by
 intro i
 generalize hr:rk i=r
 induction r using Nat.strongRecOn generalizing i with
 |
  _ r ih =>
  intro hi
  have:=hnone i hi
  cases hb:getB l i with
  | true=>rfl
  |
   false =>
   have hr:zaj deps l i=true:=zag.2 ⟨hb,fun j hj=>ih (rk j) (by have:=(ok.low i hi j hj).2;omega) j rfl (ok.low i hi j hj).1⟩
   rw [this] at hr
   cases hr
theorem zqT {deps:List (List Nat)} {l:List Bool} {a b i:Nat} (hb:b < deps.length) (h:zaj (deps.set b (a::deps.getD b [])) l i=true):zaj deps l i=true:=by
 rw [zag] at h ⊢
 refine ⟨h.1,fun j hj=>h.2 j ?_⟩
 rw [List.getD_eq_getElem?_getD,List.getElem?_set]
 by_cases hbi:b=i
 ·
  subst hbi
  simp only [if_true,hb,Option.getD_some]
  exact List.mem_cons_of_mem _ hj
 ·
  rw [if_neg hbi,← List.getD_eq_getElem?_getD]
  exact hj
theorem zkF {deps:List (List Nat)} {l:List Bool} {a b i:Nat} (hb:b < deps.length) (h:zaj deps l i=true) (ho:i=b→getB l a=true):zaj (deps.set b (a::deps.getD b [])) l i=true:=by
 rw [zag] at h ⊢
 refine ⟨h.1,fun j hj=>?_⟩
 rw [List.getD_eq_getElem?_getD,List.getElem?_set] at hj
 by_cases hbi:b=i
 ·
  subst hbi
  simp only [if_true,hb,Option.getD_some] at hj
  rcases List.mem_cons.1 hj with rfl | hj
  · exact ho rfl
  · exact h.2 j hj
 ·
  rw [if_neg hbi,← List.getD_eq_getElem?_getD] at hj
  exact h.2 j hj
theorem zAs {deps:List (List Nat)} {a b i:Nat} (hb:b < deps.length) {j:Nat} (hj:j∈(deps.set b (a::deps.getD b [])).getD i []):j∈deps.getD i []∨(i=b∧j=a):=by
 rw [List.getD_eq_getElem?_getD,List.getElem?_set] at hj
 by_cases hbi:b=i
 ·
  subst hbi
  simp only [if_true,hb,Option.getD_some] at hj
  rcases List.mem_cons.1 hj with rfl | hj
  · exact .inr ⟨rfl,rfl⟩
  · exact .inl hj
 ·
  rw [if_neg hbi,← List.getD_eq_getElem?_getD] at hj
  exact .inl hj
theorem zzY {deps:List (List Nat)} {a b i:Nat} (hb:b < deps.length) {j:Nat} (hj:j∈deps.getD i []):j∈(deps.set b (a::deps.getD b [])).getD i []:=by
 rw [List.getD_eq_getElem?_getD,List.getElem?_set]
 by_cases hbi:b=i
 ·
  subst hbi
  simp only [if_true,hb,Option.getD_some]
  exact List.mem_cons_of_mem _ hj
 ·
  rw [if_neg hbi,← List.getD_eq_getElem?_getD]
  exact hj
theorem zuv {K0:Kn} {vs:List (Nat × AV)} {d1 d2 t:Nat} {x y x2 y2:AV} (h1:t≠d1) (h2:t≠d2):(zP K0 ((d1,x)::(d2,y)::vs)).get t=(zP K0 ((d1,x2)::(d2,y2)::vs)).get t:=by
 rw [zP,zP,zP,zP,zD,zD]
 cases zmh vs t with
 | some v=>rfl
 |
  none =>
  simp only [zqt]
  rw [Kn.get_set,if_neg h2,Kn.get_set,if_neg h1,Kn.get_set,if_neg h2,Kn.get_set,if_neg h1]
theorem zkk {K0:Kn} {vs:List (Nat × AV)} {d1 d2 t:Nat} {x y:AV} (h:d1≠d2):(zP K0 ((d1,x)::(d2,y)::vs)).get t=(zP K0 ((d2,y)::(d1,x)::vs)).get t:=by
 rw [zP,zP,zP,zP,zD,zD]
 cases zmh vs t with
 | some v=>rfl
 |
  none =>
  simp only [zqt]
  rw [Kn.get_set,Kn.get_set,Kn.get_set,Kn.get_set]
  by_cases h1:t=d1
  ·
   subst h1
   rw [if_neg h,if_pos rfl,if_pos rfl]
  ·
   by_cases h2:t=d2
   ·
    subst h2
    rw [if_pos rfl,if_neg h1,if_pos rfl]
   · rw [if_neg h2,if_neg h1,if_neg h1,if_neg h2]
theorem DInv.swap {ops:List AOper} {deps:List (List Nat)} {Ls:List Nat} {St St2 A:List (List Nat)} {plan:Plan} {ks:List Nat} {rk:Nat→Nat} {K0:Kn} {vs:List (Nat × AV)} {da db:Nat} {x y x2 y2:AV} {hs hs2:List Nat→AH × Nat} {l:List Bool} {K:Kn} {H:AH} {nx a b:Nat}
  (hb:b < deps.length) (ha:a < deps.length) (ok:DrawOk2 rk ops (deps.set b (a::deps.getD b [])) Ls A St plan ks) (inv:DInv ops (deps.set b (a::deps.getD b [])) Ls St (zP K0 ((da,x)::(db,y)::vs)) hs l K H nx)
  (hda:(ops.getD a default).dst=some da) (hdb:(ops.getD b default).dst=some db) (hal:a < ops.length) (hbl:b < ops.length) (hdl:ops.length≤deps.length)
  (hLs:∀ m∈Ls,m=a∨m=b∨a∈A.getD m []) (hna:getB l a=false) (hnb:getB l b=false) (h0:hs2 []=hs []) (hst:[]∈St2) :
  DInv ops (deps.set a (b::deps.getD a [])) Ls St2 (zP K0 ((da,x2)::(db,y2)::vs)) hs2 l K H nx:=by
 have hS:Ls.filter (getB l)=[]:=by
  rw [List.filter_eq_nil_iff]
  intro m hm hml
  rcases hLs m hm with rfl | rfl | h
  · rw [hna] at hml;cases hml
  · rw [hnb] at hml;cases hml
  ·
   have:=zoc ok inv.clo m (ok.lin m hm) (inv.clo m (ok.lin m hm) hml) a h
   rw [hna] at this
   cases this
 refine ⟨fun i hi hil j hj=>?_,fun i d hi hil hd=>?_,fun t ht=>?_,by rw [hS];exact hst,by rw [hS,h0];have:=inv.rows;rw [hS] at this;exact this⟩
 ·
  rcases zAs ha hj with h | ⟨h,_⟩
  · exact inv.clo i hi hil j (zzY hb h)
  ·
   subst h
   rw [hna] at hil
   cases hil
 ·
  rw [inv.done i d hi hil hd]
  refine zuv (fun e=>?_) (fun e=>?_)
  ·
   have:=ok.one i a d hi hal hd (by rw [hda,e])
   subst this
   rw [hna] at hil
   cases hil
  ·
   have:=ok.one i b d hi hbl hd (by rw [hdb,e])
   subst this
   rw [hnb] at hil
   cases hil
 ·
  rw [inv.rest t ht]
  exact zuv (fun e=>ht _ (zpU hal) (by rw [hda,e])) (fun e=>ht _ (zpU hbl) (by rw [hdb,e]))
theorem DInv.end {ops:List AOper} {deps:List (List Nat)} {Ls:List Nat} {St A:List (List Nat)} {plan:Plan} {ks:List Nat} {rk:Nat→Nat} {K0:Kn} {vs:List (Nat × AV)} {hs:List Nat→AH × Nat} {l:List Bool} {K:Kn} {H:AH} {nx:Nat} {drop:List Nat} {Q:QT}
  (ok:DrawOk2 rk ops deps Ls A St plan ks) (inv:DInv ops deps Ls St (zP K0 vs) hs l K H nx) (hnone:∀ i,i < ops.length→zaj deps l i=false) (hq:QExt Q) {kept:List (Nat × AV)} (hkept:zqw drop vs=kept)
  (he:Q .normal (zP (K0.drop drop) kept) (hs Ls).1 (hs Ls).2):Q .normal (K.drop drop) H nx:=by
 have hall:=all2 ok hnone
 have hK:KEq (zP K0 vs) K:=fun t=>by
  by_cases h:∃ o∈ops,o.dst=some t
  ·
   obtain ⟨o,ho,hd⟩:=h
   obtain ⟨i,hi,he⟩:=List.mem_iff_getElem.1 ho
   have e:ops.getD i default=o:=by rw [List.getD_eq_getElem?_getD,List.getElem?_eq_getElem hi,he];rfl
   exact (inv.done i t hi (hall i hi) (by rw [e];exact hd)).symm
  · exact (inv.rest t (fun o ho e=>h ⟨o,ho,e⟩)).symm
 have hcnt:Ls.filter (getB l)=Ls:=List.filter_eq_self.2 (fun m hm=>hall m (ok.lin m hm))
 have hr:=inv.rows
 rw [hcnt] at hr
 rw [← hr] at he
 exact hq _ _ _ _ _ (fun t=>(zzr hkept t).trans (hK.drop drop t)) he
def zxh (ops:List AOper) (deps:List (List Nat)) (Ls:List Nat) (A B:List (List Nat)) (a b da db:Nat):Bool :=
 (Nat.blt a ops.length&&Nat.blt b ops.length)&&(Nat.ble ops.length deps.length&&((match (ops.getD a default).dst,(ops.getD b default).dst with | some d,some e=>Nat.beq d da&&Nat.beq e db | _,_=>false) &&
  (Ls.all (fun m=>Nat.beq m a||(Nat.beq m b||memN (A.getD m []) a))&&Ls.all (fun m=>Nat.beq m b||(Nat.beq m a||memN (B.getD m []) b)))))
def rkTwo (a b i:Nat):Nat:=bif Nat.beq i a then 2 * b+1 else 2 * i
theorem zy7 {ops:List AOper} {deps:List (List Nat)} {drop:List Nat} {Q:QT} {K0:Kn} {H0:AH} {nx0 n:Nat} (a b da db:Nat) (Ls:List Nat) (A B StA StB:List (List Nat)) (planA planB:Plan) (vs:List (Nat × AV)) (x y x2 y2:AV) (hsA hsB:List Nat→AH × Nat)
  (hA:zqd (fun i=>i) ops (deps.set b (a::deps.getD b [])) Ls A StA planA (da::db::vs.map (·.1))=true)
  (hB:zqd (rkTwo a b) ops (deps.set a (b::deps.getD a [])) Ls B StB planB (da::db::vs.map (·.1))=true) (hab:Nat.beq a b=false)
  (hside:zxh ops deps Ls A B a b da db=true) (hn:n=ops.length) (h0A:hsA []=(H0,nx0)) (h0B:hsB []=(H0,nx0)) (hq:QExt Q)
  (hpA:∀ (Kf:Kn) (hs':List Nat→AH × Nat),Kf=zP K0 ((da,x)::(db,y)::vs)→hs'=hsA→zqe P ops Kf hs' planA)
  (hpB:∀ (Kf:Kn) (hs':List Nat→AH × Nat),Kf=zP K0 ((da,x2)::(db,y2)::vs)→hs'=hsB→zqe P ops Kf hs' planB)
  (keptA keptB:List (Nat × AV)) (hkA:zqw drop ((da,x)::(db,y)::vs)=keptA) (hkB:zqw drop ((da,x2)::(db,y2)::vs)=keptB)
  (heA:Q .normal (zP (K0.drop drop) keptA) (hsA Ls).1 (hsA Ls).2) (heB:Q .normal (zP (K0.drop drop) keptB) (hsB Ls).1 (hsB Ls).2) :
  zat P (.tree (ze9 ops deps n (List.replicate n false))) drop Q K0 H0 nx0:=by
 have okA:=zo9 hA
 have okB:=zo9 hB
 have hpA:=hpA _ _ rfl rfl
 have hpB:=hpB _ _ rfl rfl
 subst hn
 have hne:a≠b:=fun e=>by rw [e,zaA] at hab;cases hab
 unfold zxh at hside
 simp only [Bool.and_eq_true] at hside
 obtain ⟨⟨s1,s2⟩,s3,s4,s5,s6⟩:=hside
 have hal:a < ops.length:=Nat.le_of_ble_eq_true s1
 have hbl:b < ops.length:=Nat.le_of_ble_eq_true s2
 have hdl:ops.length≤deps.length:=Nat.le_of_ble_eq_true s3
 have hda:(ops.getD a default).dst=some da∧(ops.getD b default).dst=some db:=by
  cases e1:(ops.getD a default).dst with
  | none=>rw [e1] at s4;cases s4
  |
   some d =>
   cases e2:(ops.getD b default).dst with
   | none=>rw [e1,e2] at s4;cases s4
   |
    some e =>
    rw [e1,e2] at s4
    simp only [Bool.and_eq_true] at s4
    rw [zj s4.1,zj s4.2]
    exact ⟨rfl,rfl⟩
 obtain ⟨hda,hdb⟩:=hda
 have hL1:∀ m∈Ls,m=a∨m=b∨a∈A.getD m []:=fun m hm=>by
  have:=List.all_eq_true.1 s5 m hm
  rcases Bool.or_eq_true_iff.1 this with h | h
  · exact .inl (zj h)
  ·
   rcases Bool.or_eq_true_iff.1 h with h | h
   · exact .inr (.inl (zj h))
   · exact .inr (.inr ((zN _ _).1 h))
 have hL2:∀ m∈Ls,m=b∨m=a∨b∈B.getD m []:=fun m hm=>by
  have:=List.all_eq_true.1 s6 m hm
  rcases Bool.or_eq_true_iff.1 this with h | h
  · exact .inl (zj h)
  ·
   rcases Bool.or_eq_true_iff.1 h with h | h
   · exact .inr (.inl (zj h))
   · exact .inr (.inr ((zN _ _).1 h))
 have getR:∀ i,getB (List.replicate ops.length false) i=false:=fun i=>by
  unfold getB
  rw [List.getD_eq_getElem?_getD,List.getElem?_replicate]
  split<;>rfl
 have noR:Ls.filter (getB (List.replicate ops.length false))=[]:=by
  rw [List.filter_eq_nil_iff]
  intro i _
  rw [getR]
  simp
 have hcome:∀ m,zeA (List.replicate m false)=m:=by
  intro m
  induction m with
  | zero=>rfl
  | succ m ih=>rw [List.replicate_succ,zeA,ih];simp;omega
 refine zus (fun l K H nx=>DInv ops (deps.set b (a::deps.getD b [])) Ls StA (zP K0 ((da,x)::(db,y)::vs)) hsA l K H nx∨DInv ops (deps.set a (b::deps.getD a [])) Ls StB (zP K0 ((da,x2)::(db,y2)::vs)) hsB l K H nx) ?_ ?_ ops.length _ K0 H0 nx0 (by simp) (by rw [hcome];omega) (.inl ⟨fun i _ h=>(by rw [getR] at h;cases h),fun i d _ h=>(by rw [getR] at h;cases h),fun t ht=>?_,?_,?_⟩)
 ·
  intro l K H nx i hl inv hi hr
  have hun:=(zag.1 hr).1
  rcases inv with inv | inv
  ·
   by_cases hcase:i=b∧getB l a=false
   ·
    obtain ⟨rfl,hna⟩:=hcase
    have inv2:=inv.swap (St2:=StB) (x2:=x2) (y2:=y2) (hs2:=hsB) (by omega) (by omega) okA hda hdb hal hbl hdl hL1 hna hun (h0B.trans h0A.symm) okB.st0
    exact ziW (fun _ _ _ h=>.inr h) (zz8 okB hpB hl inv2 hi (zkF (by omega) hr fun e=>absurd e.symm hne))
   · exact ziW (fun _ _ _ h=>.inl h) (zz8 okA hpA hl inv hi (zkF (by omega) hr fun e=>by
     cases h:getB l a with
     | true=>rfl
     | false=>exact absurd ⟨e,h⟩ hcase))
  ·
   by_cases hcase:i=a∧getB l b=false
   ·
    obtain ⟨rfl,hnb⟩:=hcase
    have hperm:DInv ops (deps.set i (b::deps.getD i [])) Ls StB (zP K0 ((db,y2)::(da,x2)::vs)) hsB l K H nx:=by
     refine ⟨inv.clo,fun j d hj hjl hd=>?_,fun t ht=>?_,inv.here,inv.rows⟩
     ·
      rw [inv.done j d hj hjl hd]
      refine zkk ?_
      intro e
      exact hne (okA.one i b da hal hbl hda (by rw [hdb,← e]))
     ·
      rw [inv.rest t ht]
      refine zkk ?_
      intro e
      exact hne (okA.one i b da hal hbl hda (by rw [hdb,← e]))
    have inv2:=hperm.swap (St2:=StA) (x2:=y) (y2:=x) (hs2:=hsA) (by omega) (by omega) okB hdb hda hbl hal hdl hL2 hnb hun (h0A.trans h0B.symm) okA.st0
    have inv3:DInv ops (deps.set b (i::deps.getD b [])) Ls StA (zP K0 ((da,x)::(db,y)::vs)) hsA l K H nx:=by
     refine ⟨inv2.clo,fun j d hj hjl hd=>?_,fun t ht=>?_,inv2.here,inv2.rows⟩
     ·
      rw [inv2.done j d hj hjl hd]
      refine zkk ?_
      intro e
      exact hne (okA.one i b da hal hbl hda (by rw [hdb,e]))
     ·
      rw [inv2.rest t ht]
      refine zkk ?_
      intro e
      exact hne (okA.one i b da hal hbl hda (by rw [hdb,e]))
    exact ziW (fun _ _ _ h=>.inl h) (zz8 okA hpA hl inv3 hi (zkF (by omega) hr fun e=>absurd e hne))
   · exact ziW (fun _ _ _ h=>.inr h) (zz8 okB hpB hl inv hi (zkF (by omega) hr fun e=>by
     cases h:getB l b with
     | true=>rfl
     | false=>exact absurd ⟨e,h⟩ hcase))
 ·
  intro l K H nx hl inv hnone
  have nA:∀ i,i < ops.length→zaj (deps.set b (a::deps.getD b [])) l i=false:=fun i hi=>by
   cases h:zaj (deps.set b (a::deps.getD b [])) l i with
   | false=>rfl
   | true=>exact absurd (hnone i hi) (by simp [zqT (show b < deps.length by omega) h])
  have nB:∀ i,i < ops.length→zaj (deps.set a (b::deps.getD a [])) l i=false:=fun i hi=>by
   cases h:zaj (deps.set a (b::deps.getD a [])) l i with
   | false=>rfl
   | true=>exact absurd (hnone i hi) (by simp [zqT (show a < deps.length by omega) h])
  rcases inv with inv | inv
  · exact inv.end okA nA hq hkA heA
  · exact inv.end okB nB hq hkB heB
 ·
  rw [zdV]
  intro hm
  obtain ⟨o,ho,hd⟩:=okA.keys t (by simpa using hm)
  exact ht o ho hd
 · rw [noR];exact okA.st0
 · rw [noR];exact h0A.symm
end
end Go.Ab
namespace Go.Proofs
open Go.RowKit Go.Maps Go.Sort Go.Shelf
def zsE:Go.Shelf.Ren:=⟨fun | 5=>68 | 8=>85 | 7=>93 | 19=>111 | 20=>112 | 10=>119 | 11=>120 | 12=>121 | 13=>122 | 14=>123 | 15=>124 | 16=>125 | 17=>126 | 18=>127 | 30=>146 | 31=>139 | 32=>140 | 33=>147 | 34=>148 | 35=>149 | 40=>158 | n=>n,fun | 23=>26 | 25=>3 | 3=>3 | 32=>118 | 22=>26 | 0=>0 | 44=>22 | 46=>147 | 4=>4 | 36=>138 | 35=>137 | 41=>143 | 5=>5 | 9=>9 | 53=>167 | 57=>171 | 63=>184 | 64=>185 | n=>n,fun | n=>n⟩
theorem zxS:Go.Proofs.SlLaysM.n5 Tryz.prog zsE:={
 mixed:=by kernel_rfl,
 f5:=⟨Tryz.f68.name,by decide,Tryz.func68.trans (congrArg some (by kernel_rfl))⟩,
 f7:=⟨Tryz.f93.name,by decide,Tryz.func93.trans (congrArg some (by kernel_rfl))⟩,
 f8:=Tryz.func85.trans (congrArg some (by kernel_rfl)),
 f10:=⟨Tryz.f119.name,by decide,Tryz.func119.trans (congrArg some (by kernel_rfl))⟩,
 f11:=⟨Tryz.f120.name,by decide,Tryz.func120.trans (congrArg some (by kernel_rfl))⟩,
 f12:=⟨Tryz.f121.name,by decide,Tryz.func121.trans (congrArg some (by kernel_rfl))⟩,
 f13:=⟨Tryz.f122.name,by decide,Tryz.func122.trans (congrArg some (by kernel_rfl))⟩,
 f14:=⟨Tryz.f123.name,by decide,Tryz.func123.trans (congrArg some (by kernel_rfl))⟩,
 f15:=⟨Tryz.f124.name,by decide,Tryz.func124.trans (congrArg some (by kernel_rfl))⟩,
 f16:=⟨Tryz.f125.name,by decide,Tryz.func125.trans (congrArg some (by kernel_rfl))⟩,
 f17:=⟨Tryz.f126.name,by decide,Tryz.func126.trans (congrArg some (by kernel_rfl))⟩,
 f18:=⟨Tryz.f127.name,by decide,Tryz.func127.trans (congrArg some (by kernel_rfl))⟩,
 f19:=Tryz.func111.trans (congrArg some (by kernel_rfl)),
 f20:=Tryz.func112.trans (congrArg some (by kernel_rfl)),
 f30:=⟨Tryz.f146.name,by decide,Tryz.func146.trans (congrArg some (by kernel_rfl))⟩,
 f31:=Tryz.func139.trans (congrArg some (by kernel_rfl)),
 f32:=Tryz.func140.trans (congrArg some (by kernel_rfl)),
 f33:=⟨Tryz.f147.name,by decide,Tryz.func147.trans (congrArg some (by kernel_rfl))⟩,
 f34:=⟨Tryz.f148.name,by decide,Tryz.func148.trans (congrArg some (by kernel_rfl))⟩,
 f35:=⟨Tryz.f149.name,by decide,Tryz.func149.trans (congrArg some (by kernel_rfl))⟩,
 f40:=⟨Tryz.f158.name,by decide,Tryz.func158.trans (congrArg some (by kernel_rfl))⟩,
 t0:=Tryz.underlying0,
 a0:=Tryz.isAgg0,
 z0:=Tryz.sizeOf0,
 v0:=Tryz.zeroValue0,
 t3:=Tryz.underlying3,
 a3:=Tryz.isAgg3,
 z3:=Tryz.sizeOf3,
 v3:=Tryz.zeroValue3,
 t4:=Tryz.underlying4,
 a4:=Tryz.isAgg4,
 z4:=Tryz.sizeOf4,
 v4:=Tryz.zeroValue4,
 t5:=Tryz.underlying5,
 a5:=Tryz.isAgg5,
 z5:=Tryz.sizeOf5,
 v5:=Tryz.zeroValue5,
 t9:=Tryz.underlying9,
 a9:=Tryz.isAgg9,
 z9:=Tryz.sizeOf9,
 v9:=Tryz.zeroValue9,
 t22:=Tryz.underlying26,
 a22:=Tryz.isAgg26,
 z22:=Tryz.sizeOf26,
 v22:=Tryz.zeroValue26,
 t23:=Tryz.underlying26,
 a23:=Tryz.isAgg26,
 z23:=Tryz.sizeOf26,
 v23:=Tryz.zeroValue26,
 t25:=Tryz.underlying3,
 a25:=Tryz.isAgg3,
 z25:=Tryz.sizeOf3,
 v25:=Tryz.zeroValue3,
 t32:=Tryz.underlying118,
 a32:=Tryz.isAgg118,
 z32:=Tryz.sizeOf118,
 v32:=Tryz.zeroValue118,
 t35:=Tryz.underlying137,
 a35:=Tryz.isAgg137,
 z35:=Tryz.sizeOf137,
 v35:=Tryz.zeroValue137,
 t36:=Tryz.underlying138,
 a36:=Tryz.isAgg138,
 z36:=Tryz.sizeOf138,
 v36:=Tryz.zeroValue138,
 t41:=Tryz.underlying143,
 a41:=Tryz.isAgg143,
 z41:=Tryz.sizeOf143,
 v41:=Tryz.zeroValue143,
 t44:=Tryz.underlying22,
 a44:=Tryz.isAgg22,
 z44:=Tryz.sizeOf22,
 v44:=Tryz.zeroValue22,
 t46:=Tryz.underlying147,
 a46:=Tryz.isAgg147,
 z46:=Tryz.sizeOf147,
 v46:=Tryz.zeroValue147,
 t53:=Tryz.underlying167,
 a53:=Tryz.isAgg167,
 z53:=Tryz.sizeOf167,
 v53:=Tryz.zeroValue167,
 t57:=Tryz.underlying171,
 a57:=Tryz.isAgg171,
 z57:=Tryz.sizeOf171,
 v57:=Tryz.zeroValue171,
 t63:=Tryz.underlying184,
 a63:=Tryz.isAgg184,
 z63:=Tryz.sizeOf184,
 v63:=Tryz.zeroValue184,
 t64:=Tryz.underlying185,
 a64:=Tryz.isAgg185,
 z64:=Tryz.sizeOf185,
 v64:=Tryz.zeroValue185 }
end Go.Proofs
