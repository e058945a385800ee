/-
  Part 5 of the proof: how the calls of this program run, over values instead of memory, and what each function computes.
-/
import Derived.Test.YtdhlfajcofgpkaaProg
import Derived.Shelf.SlIterI.Nil
import Derived.Shelf.SortM.Plain
import Derived.Shelf.SortM.SortNone
import Derived.Test.YtdhlfajcofgpkaaKd
set_option maxRecDepth 100000
set_option linter.unusedVariables false
set_option linter.unusedSimpArgs false
set_option linter.unnecessarySimpa false
set_option linter.unusedSectionVars false
namespace Go.Ab
open Go.RowKit
section
variable {P:Program}
theorem zvC {ops:Array Oper} {bs:List AOper} {Qc:Exit→Act→World→Prop} (hlen:bs.length=ops.size) (J:List Bool→Act→World→Prop)
  (hend:∀ l a w,l.length=bs.length→J l a w→(∀ i,i < bs.length→zdd (ops.toList.map zdy) l i=false)→Qc .normal a w)
  (hstep:∀ l i a w,l.length=bs.length→i < bs.length→zdd (ops.toList.map zdy) l i=true→J l a w→∀ o,ops[i]? = some o →
   if Region.wanted o (yielded ops a.tmps) then o.wp P a w (J (l.set i true)) Qc else J (l.set i true) (a.put o.dst undef) w) :
  ∀ (fuel:Nat) (l:List Bool) (a:Act) (w:World),l.length=bs.length→zgQ l≤fuel→J l a w→wpAny P .any ops Qc fuel l.toArray a w
 |
  0,l,a,w,hl,hc,hj=>by
  have hno:∀ i,i < bs.length→zdd (ops.toList.map zdy) l i=false:=fun i hi=>by
   have:=zjm (l:=l) (by omega) i (by omega)
   unfold zdd
   rw [this]
   rfl
  refine ⟨?_,hend l a w hl hj hno⟩
  rw [List.eq_nil_iff_forall_not_mem]
  intro j hj
  obtain ⟨h1,h2⟩:=(zg4 (by omega)).1 hj
  rw [hno j (by omega)] at h2
  cases h2
 |
  fuel+1,l,a,w,hl,hc,hj=>by
  refine ⟨fun h0=>hend l a w hl hj fun i hi=>?_,fun i hi=>?_⟩
  ·
   cases hb:zdd (ops.toList.map zdy) l i with
   | false=>rfl
   |
    true =>
    have:i∈Region.ready .any ops l.toArray:=(zg4 (by omega)).2 ⟨by omega,hb⟩
    rw [h0] at this
    simp at this
  ·
   obtain ⟨h1,h2⟩:=(zg4 (by omega)).1 hi
   have ho:ops[i]? = some ops[i]:=Array.getElem?_eq_getElem h1
   have hset:=zkK (l:=l) (i:=i) (by omega) (zck.1 h2).1
   have next:∀ a w,J (l.set i true) a w→wpAny P .any ops Qc fuel (l.toArray.setIfInBounds i true) a w:=fun a w hj=>by
    have:=zvC hlen J hend hstep fuel (l.set i true) a w (by simpa using hl) (by omega) hj
    simpa using this
   have:=hstep l i a w hl (by omega) h2 hj ops[i] ho
   unfold wpOp
   rw [ho]
   simp only
   split
   ·
    rename_i hw
    rw [if_pos hw] at this
    exact .inl (Oper.wp_mono (fun a w h=>next a w h) this)
   ·
    rename_i hw
    rw [if_neg hw] at this
    exact next _ _ this
def valX (P:Program) (call:zb8) (o:AOper) (ρ:Nat→AV) (H:AH) (nx:Nat):Option (AV × AH × Nat) :=
 match o.guard with
 | none=>zmL P call o.op ρ H nx
 |
  some (t,want)=>match grd want (ρ t) with
  | some true=>zmL P call o.op ρ H nx
  | some false=>some (.tup [],H,nx)
  | none=>none
theorem zwt {call:zb8} (hs:call.Sound P) {o:AOper} {ρ ρ2:Nat→AV} (hl:∀ t∈o.looks,ρ2 t=ρ t) {H:AH} {nx:Nat} {r:AV × AH × Nat} (h:valX P call o ρ H nx=some r) {k:(Nat→AV)→AH→Nat→Prop} (hk:k (upd ρ2 o.dst r.1) r.2.1 r.2.2):ExF P false o ρ2 H nx k:=by
 have body:zmL P call o.op ρ H nx=some r→zcS P false o.op ρ2 H nx (fun v H' nx'=>k (upd ρ2 o.dst v) H' nx'):=fun h=>by
  rw [zlG (P:=P) (fx:=false) (ρ':=ρ) fun t ht=>hl t (zlB ht)]
  exact zox hs h hk
 unfold valX at h
 unfold ExF
 cases hg:o.guard with
 | none=>rw [hg] at h;exact body h
 |
  some p =>
  obtain ⟨t,want⟩:=p
  rw [hg] at h
  simp only at h ⊢
  rw [hl t (zjo hg)]
  cases hw:grd want (ρ t) with
  | none=>rw [hw] at h;cases h
  |
   some b =>
   rw [hw] at h
   cases b with
   | true=>exact ⟨fun _=>body h,fun hf=>(by cases hf)⟩
   | false=>cases h;exact ⟨fun hf=>(by cases hf),fun _=>hk⟩
def seqV (P:Program) (call:zb8):List AOper→Kn→AH→Nat→Option (List (Nat × AV) × List (Nat × Nat) × Nat)
 | [],_,_,nx=>some ([],[],nx)
 |
  o::os,K,H,nx=>match valX P call o K.get H nx with
  |
   some (v,H',nx')=>match seqV P call os (setO K o.dst v) H' nx' with
   |
    some (vs,rs,top)=>some ((match o.dst with
    | some d=>(d,v)::vs
    | none=>vs),(nx,nx' - nx)::rs,top)
   | none=>none
  | none=>none
def zyI:List (List Nat)→List (List Nat)→List (List Nat)
 | acc,[]=>acc
 | acc,ds::r=>zyI (acc++[(ds++ds.flatMap fun d=>acc.getD d []).eraseDups]) r
def renV (ρ:Nat→Nat):Nat→AV→AV
 | 0,v=>v
 |
  d+1,v=>match v with
  | .ptr r q g i f=>.ptr (ρ r) q g i f
  | .own r q g off n=>.own (ρ r) q g off n
  | .fn f caps=>.fn f (caps.map (renV ρ d))
  | .agg l=>.agg (l.map (renV ρ d))
  | .tup l=>.tup (l.map (renV ρ d))
  | .mp r q=>.mp (ρ r) q
  | .it r=>.it (ρ r)
  | v=>v
def renH (ρ:Nat→Nat):AH→AH
 | []=>[]
 |
  (r,o)::t=>(ρ r,match o with
  | .row sz els g=>.row sz (els.map fun c=>c.map (renV ρ 30)) g
  | .fam sz ins=>.fam sz ins)::renH ρ t
abbrev STab:=List (List Nat × AH)
def zj5:STab→List Nat→AH
 | [],_=>[]
 | (S,H)::t,S'=>bif beqL S S' then H else zj5 t S'
def zpc (ops:List AOper) (A:List (List Nat)) (i:Nat):List Nat :=
 (List.range ops.length).filterMap fun j=>bif Nat.beq j i||memN (A.getD j []) i then (ops.getD j default).dst else none
def zrc (ops:List AOper) (A:List (List Nat)) (K0 Kf:Kn) (i:Nat):Kn:=zb3 Kf ((zpc ops A i).map fun t=>(t,K0.get t))
def zzn (P:Program) (call:zb8) (ops:List AOper) (Ls:List Nat) (A:List (List Nat)) (K0 Kf:Kn) (rs:List (Nat × Nat)) (top:Nat) (S:List Nat) (H:AH):List Nat→STab→List (List Nat)→Option (STab × List (List Nat))
 | [],tab,todo=>some (tab,todo)
 |
  i::r,tab,todo =>
  bif zgg Ls A i S && !memS (tab.map (·.1)) (zln Ls i S) then
   match valX P call (ops.getD i default) (zrc ops A K0 Kf i).get H top with
   | some (_,H',_)=>zzn P call ops Ls A K0 Kf rs top S H r (tab++[(zln Ls i S,renH (fun x=>bif Nat.blt x top then x else x - top+(rs.getD i (0,0)).1) H')]) (todo++[zln Ls i S])
   | none=>none
  else zzn P call ops Ls A K0 Kf rs top S H r tab todo
def growT (P:Program) (call:zb8) (ops:List AOper) (Ls:List Nat) (A:List (List Nat)) (K0 Kf:Kn) (rs:List (Nat × Nat)) (top:Nat):Nat→List (List Nat)→STab→Option STab
 | 0,_,tab=>some tab
 | _+1,[],tab=>some tab
 |
  n+1,S::todo,tab=>match zzn P call ops Ls A K0 Kf rs top S (zj5 tab S) Ls tab todo with
  | some (tab',todo')=>growT P call ops Ls A K0 Kf rs top n todo' tab'
  | none=>none
def idS:Sg:=fun r=>some r
def dstB (σ:Sg) (Kf:Kn):Option Nat→AV→Bool
 | none,_=>true
 | some d,v=>vwB σ 30 v (Kf.get d)
def chkE (P:Program) (call:zb8) (ops:List AOper) (A:List (List Nat)) (K0 Kf:Kn) (rs:List (Nat × Nat)) (nx top:Nat) (tab:STab) (e:Nat × List Nat × List Nat):Bool :=
 match valX P call (ops.getD e.1 default) (zrc ops A K0 Kf e.1).get (zj5 tab e.2.1) top with
 |
  some (v,H',_) =>
  bif (ops.getD e.1 default).fixed then dstB idS Kf (ops.getD e.1 default).dst v
  else Nat.ble nx (rs.getD e.1 (0,0)).1&&(Nat.ble ((rs.getD e.1 (0,0)).1+(rs.getD e.1 (0,0)).2) top &&
   (zuP (sgR (rs.getD e.1 (0,0)).1 (rs.getD e.1 (0,0)).2 top top) top H' (zj5 tab e.2.2) &&
   (dstB (sgR (rs.getD e.1 (0,0)).1 (rs.getD e.1 (0,0)).2 top top) Kf (ops.getD e.1 default).dst v &&
   ((Kf.all fun p=>memN (zpc ops A e.1) p.1||okB (sgR (rs.getD e.1 (0,0)).1 (rs.getD e.1 (0,0)).2 top top) 30 p.2) &&
   K0.all fun p=>okB (sgR (rs.getD e.1 (0,0)).1 (rs.getD e.1 (0,0)).2 top top) 30 p.2))))
 | none=>false
def planX (ops:List AOper) (Ls:List Nat) (A:List (List Nat)) (St:List (List Nat)):Plan :=
 (List.range ops.length).flatMap fun i =>
  bif memN Ls i then (St.filter (zgg Ls A i)).map fun S=>(i,S,zln Ls i S)
  else bif (ops.getD i default).sees then (St.filter (zgg Ls A i)).map fun S=>(i,S,S)
  else ((St.filter (zgg Ls A i)).take 1).map fun S=>(i,S,S)
structure DR where
 Kf:Kn
 H:AH
 top:Nat
def zzf (ops:List AOper) (A:List (List Nat)) (i t:Nat):Bool :=
 ((A.getD i []).any fun j=>match (ops.getD j default).dst with | some d=>Nat.beq d t | none=>false) ||
 allB ops.length fun j=>match (ops.getD j default).dst with | some d => !Nat.beq d t||(Nat.beq j i||memN (A.getD j []) i) | none=>true
def zmF (o:AOper):AOper:={ o with op:=bif o.fixed && !o.sees then .mov (.c .undef) else .mknil 0,guard:=none }
def zvR (ops:List AOper) (deps:List (List Nat)) (Ls:List Nat) (A:List (List Nat)) (St:List (List Nat)) (plan:Plan) (ks:List Nat):Bool :=
 zwi (ops.map zmF) deps Ls A St plan ks
def drawR (P:Program) (call:zb8) (ops:List AOper) (deps:List (List Nat)) (Ls:List Nat) (A:List (List Nat)) (vs:List (Nat × AV)) (rs:List (Nat × Nat)) (tab:STab) (K:Kn) (nx top:Nat):Option (Kn × AH × Nat) :=
 bif Nat.ble nx top&&(zvR ops deps Ls A (tab.map (·.1)) (planX ops Ls A (tab.map (·.1))) (vs.map (·.1))&&((allB ops.length fun i=>(ops.getD i default).looks.all (zzf ops A i))&&(planX ops Ls A (tab.map (·.1))).all (chkE P call ops A K (zb3 K vs) rs nx top tab)))
 then some (zb3 K vs,zj5 tab Ls,top) else none
def zzI (P:Program) (call:zb8) (ops:List AOper) (deps:List (List Nat)) (K:Kn) (H:AH) (nx:Nat):Option (Kn × AH × Nat) :=
 match seqV P call ops K H nx with
 |
  some (vs,rs,top) =>
  match growT P call ops ((List.range ops.length).filter fun i => !(ops.getD i default).fixed) (zyI [] deps) K (zb3 K vs) rs top 5000 [[]] [([],H)] with
  | some tab0=>drawR P call ops deps ((List.range ops.length).filter fun i => !(ops.getD i default).fixed) (zyI [] deps) vs rs (([],H)::tab0.tail) K nx top
  | none=>none
 | none=>none
theorem zxk (H:AH) (ι:Inj):zd6 H idS.two ι=ι:=by
 funext r q g
 simp [zd6,Sg.two,idS]
theorem vr_id {w:World} {L:Nat→Prop} {ι:Inj} {H:AH} {nx:Nat} (rel:RelH w L ι H nx) {a b:AV} (h:Vw H H idS.two noD true a b) {v:Value} (hv:VR w (Lt L ι H) ι v a):VR w (Lt L ι H) ι v b:=by
 have:=h.sound rel (M:=Lt L ι H) (fun _ h=>h) (fun _ _ _ _ _ _ h=>h.elim) v hv
 rw [zxk] at this
 exact this
theorem RelH.up {w:World} {L:Nat→Prop} {ι:Inj} {H:AH} {nx nx':Nat} (rel:RelH w L ι H nx) (h:nx≤nx'):RelH w L ι H nx' :=
 ⟨rel.row,rel.apart,rel.out,fun r q g l hi=>Nat.lt_of_lt_of_le (rel.idx r q g l hi) h,fun r o hi=>Nat.lt_of_lt_of_le (rel.dom r o hi) h,rel.gen,rel.Lsz⟩
def vsD (ops:List AOper) (Kf:Kn) (l:List Bool):List (Nat × AV):=(List.range ops.length).filterMap fun i=>bif getB l i then (ops.getD i default).dst.map fun d=>(d,Kf.get d) else none
theorem zqx {ops:List AOper} {Kf:Kn} {l:List Bool} {p:Nat × AV}:p∈vsD ops Kf l↔∃ i,i < ops.length∧getB l i=true∧(ops.getD i default).dst=some p.1∧p.2=Kf.get p.1:=by
 unfold vsD
 rw [List.mem_filterMap]
 constructor
 ·
  rintro ⟨i,hi,h⟩
  refine ⟨i,List.mem_range.1 hi,?_⟩
  cases hb:getB l i with
  | false=>rw [hb] at h;cases h
  |
   true =>
   rw [hb] at h
   obtain ⟨d,hd,rfl⟩:=Option.map_eq_some_iff.1 h
   exact ⟨rfl,hd,rfl⟩
 ·
  rintro ⟨i,hi,hb,h,he⟩
  exact ⟨i,List.mem_range.2 hi,by rw [hb,cond_true,h,Option.map_some,← he]⟩
theorem zkx:∀ {vs:List (Nat × AV)} {K:Kn} {t:Nat} {v:AV},(∀ p∈vs,p.1=t→p.2=v)→t∈vs.map (·.1)→(zb3 K vs).get t=v
 | [],_,_,_,_,h=>by simp at h
 |
  (d,u)::r,K,t,v,h,hm=>by
  rw [zb3]
  by_cases hr:t∈r.map (·.1)
  · exact zkx (fun p hp=>h p (List.mem_cons_of_mem _ hp)) hr
  ·
   rw [zfP hr,Kn.get_set]
   simp only [List.map_cons,List.mem_cons] at hm
   rcases hm with hm | hm
   ·
    subst hm
    rw [if_pos rfl]
    exact h (t,u) (by simp) rfl
   · exact absurd hm hr
def zhV (ops:List AOper) (K0 Kf:Kn) (l:List Bool):Kn:=zb3 K0 (vsD ops Kf l)
theorem zg1 {ops:List AOper} {K0 Kf:Kn} {l:List Bool} {i t:Nat} (hi:i < ops.length) (hb:getB l i=true) (hd:(ops.getD i default).dst=some t):(zhV ops K0 Kf l).get t=Kf.get t:=by
 unfold zhV
 refine zkx (fun p hp e=>?_) (List.mem_map.2 ⟨(t,Kf.get t),zqx.2 ⟨i,hi,hb,hd,rfl⟩,rfl⟩)
 obtain ⟨_,_,_,_,h⟩:=zqx.1 hp
 rw [h,e]
theorem ziG {ops:List AOper} {K0 Kf:Kn} {l:List Bool} {t:Nat} (h:∀ i,i < ops.length→getB l i=true→(ops.getD i default).dst≠some t):(zhV ops K0 Kf l).get t=K0.get t:=by
 unfold zhV
 refine zfP fun hm=>?_
 obtain ⟨p,hp,e⟩:=List.mem_map.1 hm
 obtain ⟨i,hi,hb,hd,_⟩:=zqx.1 hp
 exact h i hi hb (by rw [hd,e])
theorem zl0 {ops:List AOper} {A:List (List Nat)} {i t:Nat} (h:t∈zpc ops A i):∃ j,j < ops.length∧(j=i∨i∈A.getD j [])∧(ops.getD j default).dst=some t:=by
 unfold zpc at h
 obtain ⟨j,hj,h⟩:=List.mem_filterMap.1 h
 refine ⟨j,List.mem_range.1 hj,?_⟩
 cases hb:Nat.beq j i||memN (A.getD j []) i with
 | false=>rw [hb] at h;cases h
 |
  true =>
  rw [hb] at h
  refine ⟨?_,h⟩
  rcases Bool.or_eq_true_iff.1 hb with hb | hb
  · exact .inl (zj hb)
  · exact .inr ((zad _ _).1 hb)
theorem Kn.get_mem {K:Kn} {t:Nat}:K.get t=.undef∨(t,K.get t)∈K:=by
 induction K with
 | nil=>exact .inl rfl
 |
  cons p r ih =>
  obtain ⟨j,u⟩:=p
  simp only [Kn.get]
  cases hb:Nat.beq j t with
  | true=>rw [zj hb];exact .inr (by simp)
  |
   false =>
   rcases ih with h | h
   · exact .inl h
   · exact .inr (List.mem_cons_of_mem _ h)
theorem ztT {ops:List AOper} {A:List (List Nat)} {K0 Kf:Kn} {i t:Nat} (h:t∈zpc ops A i):(zrc ops A K0 Kf i).get t=K0.get t:=by
 unfold zrc
 refine zkx (fun p hp e=>?_) ?_
 ·
  obtain ⟨x,_,rfl⟩:=List.mem_map.1 hp
  simp only at e
  subst e
  rfl
 ·
  rw [List.map_map]
  exact List.mem_map.2 ⟨t,h,rfl⟩
theorem zrV {ops:List AOper} {A:List (List Nat)} {K0 Kf:Kn} {i t:Nat} (h:t∉zpc ops A i):(zrc ops A K0 Kf i).get t=Kf.get t:=by
 unfold zrc
 refine zfP fun hm=>?_
 rw [List.map_map] at hm
 obtain ⟨x,hx,rfl⟩:=List.mem_map.1 hm
 exact h hx
theorem zwW {ops:List AOper} {A:List (List Nat)} {i j t:Nat} (hj:j < ops.length) (h:j=i∨i∈A.getD j []) (hd:(ops.getD j default).dst=some t):t∈zpc ops A i:=by
 unfold zpc
 refine List.mem_filterMap.2 ⟨j,List.mem_range.2 hj,?_⟩
 have:(Nat.beq j i||memN (A.getD j []) i)=true:=by
  rcases h with h | h
  · rw [h,zcg];rfl
  · rw [(zad _ _).2 h,Bool.or_true]
 rw [this]
 exact hd
structure DOk (ops:List AOper) (deps:List (List Nat)) (Ls:List Nat) (A:List (List Nat)) (St:List (List Nat)) (plan:Plan) (ks:List Nat):Prop where
 low:∀ (i:Nat),i < ops.length→∀ j∈deps.getD i [],j < i
 clo:∀ (i:Nat),i < ops.length→∀ j∈A.getD i [],j∈deps.getD i []∨∃ d∈deps.getD i [],j∈A.getD d []
 one:∀ (i j d:Nat),i < ops.length→j < ops.length→(ops.getD i default).dst=some d→(ops.getD j default).dst=some d→i=j
 keys:∀ k∈ks,∃ j,j < ops.length∧(ops.getD j default).dst=some k
 look:∀ (i:Nat),i < ops.length→∀ t∈(ops.getD i default).looks,(∃ j∈A.getD i [],(ops.getD j default).dst=some t)∨∀ j,j < ops.length→(ops.getD j default).dst=some t→j=i∨i∈A.getD j []
 lin:∀ i∈Ls,i < ops.length
 st0:[]∈St
 stc:∀ S∈St,∀ i∈Ls,zgg Ls A i S=true→zln Ls i S∈St
 plan:∀ (i:Nat),i < ops.length→((ops.getD i default).fixed=true∧(ops.getD i default).sees=false∧i∉Ls∧anyP plan i=true) ∨
  (i∉Ls∧∀ S∈St,zgg Ls A i S=true→memP plan i S S=true)∨(i∈Ls∧∀ S∈St,zgg Ls A i S=true→memP plan i S (zln Ls i S)=true)
theorem znG {ops:List AOper} {i:Nat} (hi:i < ops.length):(ops.map zmF).getD i default=zmF (ops.getD i default):=by
 rw [List.getD_eq_getElem?_getD,List.getElem?_map,List.getD_eq_getElem?_getD,List.getElem?_eq_getElem hi]
 rfl
theorem zjv {ops:List AOper} {i:Nat}:((ops.map zmF).getD i default).dst=(ops.getD i default).dst:=by
 by_cases hi:i < ops.length
 · rw [znG hi];rfl
 · rw [List.getD_eq_getElem?_getD,List.getElem?_eq_none (by rw [List.length_map];omega),List.getD_eq_getElem?_getD,List.getElem?_eq_none (by omega)]
theorem dok_of {ops:List AOper} {deps:List (List Nat)} {Ls:List Nat} {A:List (List Nat)} {St:List (List Nat)} {plan:Plan} {ks:List Nat} (h:zvR ops deps Ls A St plan ks=true) (h2:(allB ops.length fun i=>(ops.getD i default).looks.all (zzf ops A i))=true):DOk ops deps Ls A St plan ks:=by
 have ok:=zuM h
 have hl:(ops.map zmF).length=ops.length:=List.length_map _
 refine ⟨fun i hi=>ok.low i (by omega),fun i hi=>ok.clo i (by omega),fun i j d hi hj h1 h2=>ok.one i j d (by omega) (by omega) (by rw [zjv];exact h1) (by rw [zjv];exact h2),fun k hk=>?_,fun i hi t ht=>?_,fun i hi=>by have:=ok.lin i hi;omega,ok.st0,ok.stc,fun i hi=>?_⟩
 ·
  obtain ⟨o,ho,hd⟩:=ok.keys k hk
  obtain ⟨j,hj,he⟩:=List.mem_iff_getElem.1 ho
  refine ⟨j,by omega,?_⟩
  rw [← zjv,List.getD_eq_getElem?_getD,List.getElem?_eq_getElem hj,he]
  exact hd
 ·
  have:=List.all_eq_true.1 (zbk h2 hi) t ht
  unfold zzf at this
  rcases Bool.or_eq_true_iff.1 this with this | this
  ·
   obtain ⟨j,hj,hd⟩:=List.any_eq_true.1 this
   refine .inl ⟨j,hj,?_⟩
   cases e:(ops.getD j default).dst with
   | none=>rw [e] at hd;cases hd
   | some d=>rw [e] at hd;rw [zj hd]
  ·
   refine .inr fun j hj hd=>?_
   have:=zbk this hj
   rw [hd] at this
   simp only [zcg,Bool.not_true,Bool.false_or,Bool.or_eq_true] at this
   rcases this with this | this
   · exact .inl (zj this)
   · exact .inr ((zad _ _).1 this)
 ·
  rcases ok.plan i (by omega) with ⟨h1,h2,h3,h4⟩ | h | h
  ·
   rw [znG hi] at h1 h2
   refine .inl ⟨?_,?_,h3,h4⟩
   ·
    cases hf:(ops.getD i default).fixed with
    | true=>rfl
    | false=>unfold zmF at h1;rw [hf] at h1;cases h1
   ·
    cases hs:(ops.getD i default).sees with
    | false=>rfl
    | true=>unfold zmF at h1;rw [hs,Bool.not_true,Bool.and_false] at h1;cases h1
  · exact .inr (.inl h)
  · exact .inr (.inr h)
theorem zjE {ops:List AOper} {deps:List (List Nat)} {Ls:List Nat} {A:List (List Nat)} {St:List (List Nat)} {plan:Plan} {ks:List Nat} (ok:DOk ops deps Ls A St plan ks) {l:List Bool}
  (hc:∀ i,i < ops.length→getB l i=true→∀ j∈deps.getD i [],getB l j=true):∀ (i:Nat),i < ops.length→(∀ j∈deps.getD i [],getB l j=true)→∀ j∈A.getD i [],getB l j=true:=by
 intro i
 induction i using Nat.strongRecOn with
 |
  _ i ih =>
  intro hi hd j hj
  rcases ok.clo i hi j hj with h | ⟨d,h1,h2⟩
  · exact hd j h
  ·
   have hlt:=ok.low i hi d h1
   exact ih d hlt (by omega) (hc d (by omega) (hd d h1)) j h2
structure DX (P:Program) (call:zb8) (ops:List AOper) (deps:List (List Nat)) (Ls:List Nat) (A:List (List Nat)) (St:List (List Nat)) (plan:Plan) (ks:List Nat) (K0 Kf:Kn) (rs:List (Nat × Nat)) (nx top:Nat) (tab:STab):Prop where
 ok:DOk ops deps Ls A St plan ks
 chk:∀ e∈plan,chkE P call ops A K0 Kf rs nx top tab e=true
 lsF:∀ i,i∈Ls→(ops.getD i default).fixed=false
 lsT:∀ i,i < ops.length→i∉Ls→(ops.getD i default).fixed=true
theorem zsb:∀ {l:Plan} {a:Nat},anyP l a=true→∃ S,(a,S,S)∈l
 | [],_,h=>by cases h
 |
  (i,k,k')::r,a,h=>by
  simp only [anyP,Bool.or_eq_true,Bool.and_eq_true] at h
  rcases h with ⟨h1,h2⟩ | h
  · rw [← zj h1,← zio h2];exact ⟨k,by simp⟩
  ·
   obtain ⟨S,hS⟩:=zsb h
   exact ⟨S,List.mem_cons_of_mem _ hS⟩
theorem zn2:∀ {l:Plan} {a:Nat} {b c:List Nat},memP l a b c=true→(a,b,c)∈l
 | [],_,_,_,h=>by cases h
 |
  (i,k,k')::r,a,b,c,h=>by
  simp only [memP,Bool.or_eq_true,Bool.and_eq_true] at h
  rcases h with ⟨h1,h2,h3⟩ | h
  · rw [← zj h1,← zio h2,← zio h3];simp
  · exact List.mem_cons_of_mem _ (zn2 h)
theorem zqD {K:Kn} {d:Option Nat} {v:AV} {t:Nat} (h:d≠some t):(setO K d v).get t=K.get t:=by
 rw [zlz]
 exact zjP h
theorem zrm {K:Kn} {d:Option Nat} {v:AV} {t:Nat} (h:d=some t):(setO K d v).get t=v:=by
 subst h
 simp [setO,Kn.get_set]
theorem upd_eq {ρ:Nat→AV} {d:Option Nat} {v:AV} {t:Nat} (h:d=some t):upd ρ d v t=v:=by
 subst h
 simp [upd]
theorem DX.sound {call:zb8} (hs:call.Sound P) {nt:Nat} {w0:World} {L:Nat→Prop} {ι0:Inj} {H0:AH} {B:Nat} (base:RelH w0 L ι0 H0 B) {id:Nat} {ops:Array Oper} {bs:List AOper} (hlen:bs.length=ops.size)
  (hrel:∀ (i:Nat) (o:Oper) (ao:AOper),ops.toList[i]? = some o→bs[i]? = some ao→OpRel P nt ops o ao) (hfol:P.follows .mixedOrders=true)
  {Ls:List Nat} {A St:List (List Nat)} {plan:Plan} {vs:List (Nat × AV)} {rs:List (Nat × Nat)} {tab:STab} {K:Kn} {H:AH} {nx top:Nat} (htop:nx≤top) (htab:zj5 tab []=H)
  (dx:DX P call bs (ops.toList.map zdy) Ls A St plan (vs.map (·.1)) K (zb3 K vs) rs nx top tab) {w:World} {ι:Inj} {a:Act} (hin:In nt w0 L ι0 H0 B w ι K.get H nx a) {Q:QT} (hq:Q .normal (zb3 K vs) (zj5 tab Ls) top) :
  (Code.region id ops true).wp P (QQ nt w0 L ι0 H0 B Q) a w:=by
 obtain ⟨ok,hchk,hlsF,hlsT⟩:=dx
 have hBnx:=hin.le
 refine wp_region_any hfol ?_
 have main:=zvC (P:=P) (Qc:=QQ nt w0 L ι0 H0 B Q) hlen (fun l a w=>∃ ι,In nt w0 L ι0 H0 B w ι (zhV bs K (zb3 K vs) l).get (zj5 tab (Ls.filter (getB l))) top a∧(∀ i,i < bs.length→getB l i=true→∀ j∈(ops.toList.map zdy).getD i [],getB l j=true)∧Ls.filter (getB l)∈St) ?_ ?_ bs.length (List.replicate bs.length false) a { w with drawn:=w.drawn+1 } (by simp) (by
  have:∀ n,zgQ (List.replicate n false)=n:=fun n=>by
   induction n with
   | zero=>rfl
   | succ n ih=>rw [List.replicate_succ,zgQ,ih];simp;omega
  rw [this]
  exact Nat.le_refl _) ?_
 ·
  rw [hlen] at main
  simpa using main
 ·
  rintro l a w hl ⟨ι,hin,hclo,hst⟩ hnone
  have hall:∀ i,i < bs.length→getB l i=true:=by
   intro i
   induction i using Nat.strongRecOn with
   |
    _ i ih =>
    intro hi
    have:=hnone i hi
    cases hb:getB l i with
    | true=>rfl
    |
     false =>
     have hr:zdd (ops.toList.map zdy) l i=true:=zck.2 ⟨hb,fun j hj=>ih j (ok.low i hi j hj) (by have:=ok.low i hi j hj;omega)⟩
     rw [this] at hr
     cases hr
  have hcnt:Ls.filter (getB l)=Ls:=List.filter_eq_self.2 (fun m hm=>hall m (ok.lin m hm))
  rw [hcnt] at hin
  have e:(zhV bs K (zb3 K vs) l).get=(zb3 K vs).get:=funext fun t=>by
   by_cases h:∃ i,i < bs.length∧(bs.getD i default).dst=some t
   ·
    obtain ⟨i,hi,hd⟩:=h
    exact zg1 hi (hall i hi) hd
   ·
    rw [ziG fun i hi _ hd=>h ⟨i,hi,hd⟩]
    exact (zfP fun hk=>h (ok.keys t hk)).symm
  rw [e] at hin
  exact ⟨ι,_,_,_,hin,hq⟩
 ·
  rintro l i a w hl hi hr ⟨ι,hin,hclo,hst⟩ o ho
  obtain ⟨hun,hdeps⟩:=zck.1 hr
  have hA:=zjE ok hclo i hi hdeps
  have hlt:∀ j,getB l j=true→j < bs.length:=fun j hj=>by
   apply Classical.byContradiction
   intro hcon
   unfold getB at hj
   rw [List.getD_eq_getElem?_getD,List.getElem?_eq_none (by omega)] at hj
   cases hj
  have hgetD:∀ {t:Nat} {o:AOper},o∈bs→o.dst=some t→∃ j,j < bs.length∧(bs.getD j default).dst=some t:=fun {t o} ho hd=>by
   obtain ⟨j,hj,he⟩:=List.mem_iff_getElem.1 ho
   exact ⟨j,hj,by rw [List.getD_eq_getElem?_getD,List.getElem?_eq_getElem hj,he];exact hd⟩
  have hcomp:zgg Ls A i (Ls.filter (getB l))=true:=by
   unfold zgg
   simp only [Bool.and_eq_true,Bool.not_eq_true',List.all_eq_true,Bool.or_eq_true]
   refine ⟨?_,fun m hm=>?_,fun m hm=>?_⟩
   ·
    cases hb:memN (Ls.filter (getB l)) i with
    | false=>rfl
    |
     true =>
     have:=(List.mem_filter.1 ((zad _ _).1 hb)).2
     rw [hun] at this
     cases this
   ·
    cases hb:memN (A.getD i []) m with
    | false=>exact .inl rfl
    | true=>exact .inr ((zad _ _).2 (List.mem_filter.2 ⟨hm,hA m ((zad _ _).1 hb)⟩))
   ·
    obtain ⟨hmL,hml⟩:=List.mem_filter.1 hm
    cases hb:memN (A.getD m []) i with
    | false=>rfl
    |
     true =>
     have:=zjE ok hclo m (ok.lin m hmL) (hclo m (ok.lin m hmL) hml) i ((zad _ _).1 hb)
     rw [hun] at this
     cases this
  have hlk:∀ t∈(bs.getD i default).looks,(zhV bs K (zb3 K vs) l).get t=(zrc bs A K (zb3 K vs) i).get t:=fun t ht=>by
   rcases ok.look i hi t ht with ⟨j,hj,hd⟩ | h
   ·
    have hdone:=hA j hj
    have hjn:=hlt j hdone
    rw [zg1 hjn hdone hd,zrV fun hf=>?_]
    obtain ⟨j',hj',hc,hd'⟩:=zl0 hf
    have:=ok.one j' j t hj' hjn hd' hd
    subst this
    rcases hc with hc | hc
    · subst hc;rw [hun] at hdone;cases hdone
    ·
     have:=zjE ok hclo j' hjn (hclo j' hjn hdone) i hc
     rw [hun] at this
     cases this
   ·
    rw [ziG fun j hj hb hd=>?_]
    ·
     by_cases he:∃ j,j < bs.length∧(bs.getD j default).dst=some t
     ·
      obtain ⟨j,hj,hd⟩:=he
      rw [ztT (zwW hj (h j hj hd) hd)]
     ·
      rw [zrV fun hf=>(by obtain ⟨j,hj,_,hd⟩:=zl0 hf;exact he ⟨j,hj,hd⟩)]
      exact (zfP fun hk=>he (ok.keys t hk)).symm
    ·
     rcases h j hj hd with hc | hc
     · subst hc;rw [hun] at hb;cases hb
     ·
      have:=zjE ok hclo j hj (hclo j hj hb) i hc
      rw [hun] at this
      cases this
  have hclo':∀ j,j < bs.length→getB (l.set i true) j=true→∀ m∈(ops.toList.map zdy).getD j [],getB (l.set i true) m=true:=by
   intro j hj hjl m hm
   rw [zhq (by omega)] at hjl ⊢
   by_cases hmi:m=i
   · rw [if_pos hmi]
   ·
    rw [if_neg hmi]
    by_cases hji:j=i
    · subst hji;exact hdeps m hm
    · rw [if_neg hji] at hjl;exact hclo j hj hjl m hm
  have hset:∀ j,getB (l.set i true) j=if j=i then true else getB l j:=fun j=>zhq (by omega)
  have hsame:∀ t,(bs.getD i default).dst≠some t→(zhV bs K (zb3 K vs) (l.set i true)).get t=(zhV bs K (zb3 K vs) l).get t:=fun t ht=>by
   by_cases h:∃ j,j < bs.length∧getB l j=true∧(bs.getD j default).dst=some t
   ·
    obtain ⟨j,hj,hb,hd⟩:=h
    rw [zg1 hj hb hd,zg1 hj (by rw [hset];split<;>first | rfl | exact hb) hd]
   ·
    rw [ziG fun j hj hb hd=>h ⟨j,hj,hb,hd⟩,ziG fun j hj hb hd=>?_]
    rw [hset] at hb
    by_cases e:j=i
    · subst e;exact ht hd
    · rw [if_neg e] at hb;exact h ⟨j,hj,hb,hd⟩
  have hself:∀ t,(bs.getD i default).dst=some t→(zhV bs K (zb3 K vs) (l.set i true)).get t=(zb3 K vs).get t:=fun t ht=>zg1 hi (by rw [hset,if_pos rfl]) ht
  have notin:i∉Ls→Ls.filter (getB (l.set i true))=Ls.filter (getB l):=fun hni=>by
   refine List.filter_congr fun m hm=>?_
   rw [zhq (by omega),if_neg (fun e:m=i=>hni (by rw [← e];exact hm))]
  have hro:=hrel i o (bs.getD i default) (by simp [ho]) (by rw [List.getD_eq_getElem?_getD,List.getElem?_eq_getElem hi];rfl)
  have entry:∃ e∈plan,e.1=i∧((i∉Ls∧((bs.getD i default).sees=false∨e.2.1=Ls.filter (getB l)))∨(i∈Ls∧e.2.1=Ls.filter (getB l)∧e.2.2=Ls.filter (getB (l.set i true))∧Ls.filter (getB (l.set i true))∈St)):=by
   rcases ok.plan i hi with ⟨hf,hse,hni,ha⟩ | ⟨hni,hk⟩ | ⟨hin',hk⟩
   ·
    obtain ⟨S,hS⟩:=zsb ha
    exact ⟨_,hS,rfl, .inl ⟨hni, .inl hse⟩⟩
   · exact ⟨_,zn2 (hk _ hst hcomp),rfl, .inl ⟨hni, .inr rfl⟩⟩
   ·
    have hnx:zln Ls i (Ls.filter (getB l))=Ls.filter (getB (l.set i true)):=by
     unfold zln
     refine List.filter_congr fun m hm=>?_
     rw [zhq (by omega)]
     by_cases hmi:m=i
     · subst hmi;simp [zcg]
     ·
      rw [if_neg hmi,ze7 hmi,Bool.false_or]
      cases hb:getB l m with
      | true=>exact (zad _ _).2 (List.mem_filter.2 ⟨hm,hb⟩)
      |
       false =>
       cases hb2:memN (Ls.filter (getB l)) m with
       | false=>rfl
       |
        true =>
        have:=(List.mem_filter.1 ((zad _ _).1 hb2)).2
        rw [hb] at this
        cases this
    have h2:=ok.stc _ hst i hin' hcomp
    rw [hnx] at h2
    exact ⟨_,zn2 (hk _ hst hcomp),rfl, .inr ⟨hin',rfl,hnx,h2⟩⟩
  obtain ⟨e,hep,he1,hcase⟩:=entry
  have hc:=hchk e hep
  unfold chkE at hc
  rw [he1] at hc
  split at hc
  ·
   rename_i v H' nx' hv
   rcases hcase with ⟨hni,hsee⟩ | ⟨hil,hS,hS',hst'⟩
   ·
    have hf:=hlsT i hi hni
    rw [hf] at hc
    simp only [cond_true] at hc
    have hex0:ExF P false (bs.getD i default) (zhV bs K (zb3 K vs) l).get (zj5 tab e.2.1) top (fun ρ' _ _=>ρ'=upd (zhV bs K (zb3 K vs) l).get (bs.getD i default).dst v):=zwt hs hlk hv rfl
    obtain ⟨v1,hy,hv1⟩:=zmd hf hex0
    have hy':Yld P (bs.getD i default) (zhV bs K (zb3 K vs) l).get (zj5 tab (Ls.filter (getB l))) top v1:=by
     rcases hsee with hse | hse
     · exact zsB hse hy
     · rw [← hse];exact hy
    have hex:ExF P false (bs.getD i default) (zhV bs K (zb3 K vs) l).get (zj5 tab (Ls.filter (getB l))) top (fun ρ' H2 nx2=>ρ'=upd (zhV bs K (zb3 K vs) l).get (bs.getD i default).dst v∧H2=zj5 tab (Ls.filter (getB l))∧nx2=top):=zjW hy' ⟨hv1,rfl,rfl⟩
    refine zjR hro hin hex fun w' ι' ρ' H2 nx2 a' hin' ⟨e1,e2,e3⟩=>?_
    subst e1 e2 e3
    refine ⟨ι',?_,hclo',by rw [notin hni];exact hst⟩
    rw [notin hni]
    refine ⟨hin'.size,hin'.defers,hin'.st,hin'.le,fun t=>?_⟩
    by_cases hd:(bs.getD i default).dst=some t
    ·
     have h1:=hin'.kn t
     rw [upd_eq hd] at h1
     rw [hd] at hc
     rw [hself t hd]
     exact vr_id hin'.st.rel (zrW 30 _ _ hc) h1
    ·
     have h1:=hin'.kn t
     rw [zjP hd] at h1
     rw [hsame t hd]
     exact h1
   ·
    have hf:=hlsF i hil
    rw [hf] at hc
    simp only [cond_false,Bool.and_eq_true] at hc
    obtain ⟨hc1,hc2,hc3,hc4,hc5,hc6⟩:=hc
    rw [hS] at hv
    rw [hS'] at hc3
    have hex:ExF P false (bs.getD i default) (zhV bs K (zb3 K vs) l).get (zj5 tab (Ls.filter (getB l))) top (fun ρ' H2 nx2=>ρ'=upd (zhV bs K (zb3 K vs) l).get (bs.getD i default).dst v∧H2=H'∧nx2=nx'):=zwt hs hlk hv ⟨rfl,rfl,rfl⟩
    refine zjR hro hin hex fun w' ι' ρ' H2 nx2 a' hin' ⟨e1,e2,e3⟩=>?_
    subst e1 e2 e3
    have hB:=hin.le
    have hlo:=bleT hc1
    have hle:=bleT hc2
    have vw:=zwQ (B:=B) (top:=top) (nx2:=top) (H:=H2) (H2:=zj5 tab (Ls.filter (getB (l.set i true)))) (Nat.le_trans hBnx hlo) hB hB hle hc3
    rw [← zlz] at hin'
    obtain ⟨ι2,hin2⟩:=hin'.ent base (K2:=zhV bs K (zb3 K vs) (l.set i true)) (Ent.view _ _ vw fun t=>by
     by_cases hd:(bs.getD i default).dst=some t
     ·
      rw [zrm hd,hself t hd]
      rw [hd] at hc4
      exact zrW 30 _ _ hc4
     ·
      rw [zqD hd,hsame t hd]
      by_cases h:∃ j,j < bs.length∧getB l j=true∧(bs.getD j default).dst=some t
      ·
       obtain ⟨j,hj,hb,hdj⟩:=h
       rw [zg1 hj hb hdj]
       rcases Kn.get_mem (K:=zb3 K vs) (t:=t) with h | h
       · rw [h];exact .undef _ _
       ·
        have:=List.all_eq_true.1 hc5 _ h
        rcases Bool.or_eq_true_iff.1 this with h2 | h2
        ·
         exfalso
         obtain ⟨j',hj',hji,hdj'⟩:=zl0 ((zad _ _).1 h2)
         have:=ok.one j' j t hj' hj hdj' hdj
         subst this
         rcases hji with hji | hji
         · subst hji;exact hd hdj
         ·
          have:=zjE ok hclo j' hj (hclo j' hj hb) i hji
          rw [hun] at this
          cases this
        · exact zvS 30 _ h2
      ·
       rw [ziG fun j hj hb hdj=>h ⟨j,hj,hb,hdj⟩]
       rcases Kn.get_mem (K:=K) (t:=t) with h | h
       · rw [h];exact .undef _ _
       · exact zvS 30 _ (List.all_eq_true.1 hc6 _ h))
    exact ⟨ι2,hin2,hclo',hst'⟩
  · cases hc
 ·
  refine ⟨ι,?_,fun i hi h=>?_,?_⟩
  ·
   have h0:Ls.filter (getB (List.replicate bs.length false))=[]:=by
    rw [List.filter_eq_nil_iff]
    intro i _
    have:getB (List.replicate bs.length false) i=false:=by
     unfold getB
     rw [List.getD_eq_getElem?_getD,List.getElem?_replicate]
     split<;>rfl
    rw [this]
    simp
   rw [h0,htab]
   have hd:=hin.drewW
   refine ⟨hd.size,hd.defers,⟨hd.st.ext,hd.st.inj,hd.st.rel.up htop,hd.st.lv⟩,Nat.le_trans hd.le htop,fun t=>?_⟩
   rw [ziG fun i hi hb _=>?_]
   · exact hd.kn t
   ·
    have:getB (List.replicate bs.length false) i=false:=by
     unfold getB
     rw [List.getD_eq_getElem?_getD,List.getElem?_replicate]
     split<;>rfl
    rw [this] at hb
    cases hb
  ·
   have:getB (List.replicate bs.length false) i=false:=by
    unfold getB
    rw [List.getD_eq_getElem?_getD,List.getElem?_replicate]
    split<;>rfl
   rw [this] at h
   cases h
  ·
   have h0:Ls.filter (getB (List.replicate bs.length false))=[]:=by
    rw [List.filter_eq_nil_iff]
    intro i _
    have:getB (List.replicate bs.length false) i=false:=by
     unfold getB
     rw [List.getD_eq_getElem?_getD,List.getElem?_replicate]
     split<;>rfl
    rw [this]
    simp
   rw [h0]
   exact ok.st0
theorem zwD {call:zb8} (hs:call.Sound P) {nt:Nat} {w0:World} {L:Nat→Prop} {ι0:Inj} {H0:AH} {B:Nat} (base:RelH w0 L ι0 H0 B) {id:Nat} {ops:Array Oper} {bs:List AOper} (hlen:bs.length=ops.size)
  (hrel:∀ (i:Nat) (o:Oper) (ao:AOper),ops.toList[i]? = some o→bs[i]? = some ao→OpRel P nt ops o ao) (hfol:P.follows .mixedOrders=true)
  {K:Kn} {H:AH} {nx:Nat} {w:World} {ι:Inj} {a:Act} (hin:In nt w0 L ι0 H0 B w ι K.get H nx a) {r:Kn × AH × Nat} (h:zzI P call bs (ops.toList.map zdy) K H nx=some r) {Q:QT} (hq:Q .normal r.1 r.2.1 r.2.2) :
  (Code.region id ops true).wp P (QQ nt w0 L ι0 H0 B Q) a w:=by
 unfold zzI at h
 split at h
 ·
  rename_i vs rs top _
  split at h
  ·
   rename_i tab htab
   unfold drawR at h
   generalize hb:(Nat.ble nx top&&_)=b at h
   cases b with
   | false=>cases h
   |
    true =>
    simp only [cond_true,Option.some.injEq] at h
    subst h
    simp only [Bool.and_eq_true] at hb
    obtain ⟨h1,h3,h5,h4⟩:=hb
    refine DX.sound hs base hlen hrel hfol (bleT h1) rfl ⟨dok_of h3 h5,fun e he=>List.all_eq_true.1 h4 e he,fun i hi=>?_,fun i hi hni=>?_⟩ hin hq
    ·
     have:=(List.mem_filter.1 hi).2
     simpa using this
    ·
     cases hf:(bs.getD i default).fixed with
     | true=>rfl
     | false=>exact (hni (List.mem_filter.2 ⟨List.mem_range.2 hi,by rw [hf];rfl⟩)).elim
  · cases h
 · cases h
end
def zmz (nx:Nat):Nat→AV→List Nat
 | 0,_=>[]
 |
  d+1,v=>match v with
  | .own r _ _ _ _=>bif Nat.blt r nx then [] else [r]
  | .ptr r _ _ _ _=>bif Nat.blt r nx then [] else [r]
  | .mp r _=>bif Nat.blt r nx then [] else [r]
  | .it r=>bif Nat.blt r nx then [] else [r]
  | .agg l=>l.flatMap (zmz nx d)
  | .tup l=>l.flatMap (zmz nx d)
  | .fn _ l=>l.flatMap (zmz nx d)
  | _=>[]
def zmJ (nx:Nat):List AV→List Nat→List Nat
 | [],acc=>acc
 |
  v::t,acc=>match v with
  | .int _ _=>zmJ nx t acc
  | .sl _ _ _=>zmJ nx t acc
  | .nilsl=>zmJ nx t acc
  | v=>zmJ nx t (zmz nx 30 v++acc)
def zqE (nx:Nat):List (List AV)→List Nat→List Nat
 | [],acc=>acc
 | c::t,acc=>zqE nx t (zmJ nx c acc)
def zuQ (nx:Nat):Option AObj→List Nat→List Nat
 | some (.row _ els _),acc=>zqE nx els acc
 | some (.fam _ ins),acc=>ins.foldl (fun acc p=>zqE nx p.1 acc) acc
 | none,acc=>acc
def zuh (nx:Nat) (H:AH):Nat→List Nat→Nat→Nat
 | 0,_,seen=>seen
 | _+1,[],seen=>seen
 | n+1,r::todo,seen=>bif Nat.testBit seen r then zuh nx H n todo seen else zuh nx H n (zuQ nx (H.look r) todo) (Nat.lor seen (Nat.shiftLeft 1 r))
def oldR (nx:Nat):AH→List Nat→List Nat
 | [],acc=>acc
 | (r,o)::t,acc=>bif Nat.blt r nx then oldR nx t (zuQ nx (some o) acc) else oldR nx t acc
def zy1 (nx:Nat) (v:AV) (H:AH):Nat:=zuh nx H 3000 (oldR nx H (zmz nx 30 v)) 0
def AH.keepM (nx m:Nat):AH→AH
 | []=>[]
 | (r,o)::t=>bif Nat.blt r nx||Nat.testBit m r then (r,o)::AH.keepM nx m t else AH.keepM nx m t
theorem AH.look_keepM (nx m:Nat) (H:AH) (r:Nat):(H.keepM nx m).look r=bif Nat.blt r nx||Nat.testBit m r then H.look r else none:=by
 induction H with
 | nil=>simp only [AH.keepM,AH.look];cases (Nat.blt r nx||Nat.testBit m r)<;>rfl
 |
  cons p t ih =>
  obtain ⟨j,o⟩:=p
  simp only [AH.keepM]
  cases hm:(Nat.blt j nx||Nat.testBit m j) with
  |
   true =>
   simp only [cond_true,AH.look,ih]
   cases hb:Nat.beq j r with
   | true=>rw [← zj hb,hm];rfl
   | false=>rfl
  |
   false =>
   simp only [cond_false,ih,AH.look]
   cases hb:Nat.beq j r with
   | true=>rw [← zj hb,hm];rfl
   | false=>rfl
theorem AH.get_keepM (nx m:Nat) (H:AH) (r q:Nat):(H.keepM nx m).get r q=bif Nat.blt r nx||Nat.testBit m r then H.get r q else none:=by
 unfold AH.get
 rw [AH.look_keepM]
 cases (Nat.blt r nx||Nat.testBit m r)<;>rfl
def gcH (nx:Nat) (v:AV) (H:AH) (nx':Nat):AH:=bif Nat.ble nx' (nx+4) then H else H.keepM nx (zy1 nx v H)
theorem zy9 {nx:Nat} {v:AV} {H:AH} {nx' r q:Nat} {o:AObj} (h:(gcH nx v H nx').get r q=some o):H.get r q=some o:=by
 unfold gcH at h
 cases hb:Nat.ble nx' (nx+4) with
 | true=>rw [hb] at h;exact h
 |
  false =>
  rw [hb] at h
  simp only [cond_false,AH.get_keepM] at h
  cases hm:(Nat.blt r nx||Nat.testBit (zy1 nx v H) r) with
  | true=>rw [hm] at h;exact h
  | false=>rw [hm] at h;cases h
theorem zw9 {nx:Nat} {v:AV} {H:AH} {nx' r:Nat} {o:AObj} (h:(gcH nx v H nx').look r=some o):H.look r=some o:=by
 unfold gcH at h
 cases hb:Nat.ble nx' (nx+4) with
 | true=>rw [hb] at h;exact h
 |
  false =>
  rw [hb] at h
  simp only [cond_false,AH.look_keepM] at h
  cases hm:(Nat.blt r nx||Nat.testBit (zy1 nx v H) r) with
  | true=>rw [hm] at h;exact h
  | false=>rw [hm] at h;cases h
section
variable {P:Program}
theorem RelH.sub {w:World} {L:Nat→Prop} {ι:Inj} {H H':AH} {nx:Nat} (rel:RelH w L ι H nx) (hg:∀ r q o,H'.get r q=some o→H.get r q=some o) (hd:∀ r o,H'.look r=some o→r < nx) :
  (∀ b,live ι H' b→live ι H b)∧RelH w L ι H' nx:=by
 have hl:∀ b,live ι H' b→live ι H b:=fun b ⟨r,q,sz,els,g,l,h1,h2,h3,h4⟩=>⟨r,q,sz,els,g,l,hg _ _ _ h1,h2,h3,h4⟩
 have hLt:∀ b,Lt L ι H' b→Lt L ι H b:=fun b h=>h.elim .inl fun h=>.inr (hl b h)
 refine ⟨hl,fun r q sz els g h=>?_,fun r1 q1 r2 q2 s1 e1 g1 l1 s2 e2 g2 l2 h1 h2=>rel.apart _ _ _ _ _ _ _ _ _ _ _ _ (hg _ _ _ h1) (hg _ _ _ h2),fun b hb=>rel.out b (hl b hb),rel.idx,hd,fun r q sz els g h=>rel.gen _ _ _ _ _ (hg _ _ _ h),rel.Lsz⟩
 obtain ⟨l,h1,ok⟩:=rel.row _ _ _ _ _ (hg _ _ _ h)
 exact ⟨l,h1,ok.trans (fun _=>rfl) fun v a hv=>hv.anti hLt⟩
theorem zzF {f:FuncId} {args:List AV} {H:AH} {nx:Nat} {k:AV→AH→Nat→Prop} (h:zN P f args H nx (fun v H' nx'=>k v (gcH nx v H' nx') nx')):zN P f args H nx k:=by
 intro w L ι vs h1 h2
 refine (h w L ι vs h1 h2).mono fun e w' ⟨v,ι',H',nx',a,h3,h4,h5,h6,h7⟩=>?_
 obtain ⟨hl,hr⟩:=h4.rel.sub (fun r q o h=>zy9 h) (fun r o h=>h4.rel.dom r o (zw9 h))
 exact ⟨v,ι',_,nx',a,h3,⟨h4.ext,h4.inj,hr,fun b hb=>h4.lv b (hl b hb)⟩,h5,h6.anti fun b hb=>hb.elim .inl fun hb=>.inr (hl b hb),h7⟩
def zuV (P:Program) (qf:FuncId→Nat→List Nat) (orc:zb8) (ex:Nat→(Nat→List Nat)→Code→Kn→AH→Nat→Option Out):zb8:=fun f args H nx =>
 match orc f args H nx with
 | some r=>some r
 |
  none=>match P.funcs[f]? with
  |
   some fn=>match fn.body with
   |
    some c=>match fn.results.toList.mapM (cret P) with
    |
     some rs=>bif Nat.ble args.length fn.ntmps then
      match ex fn.ntmps (qf f) c (zil 0 args) H nx with
      |
       some (e,K,H',nx')=>match e with
       | .exit _=>none
       | .goto _=>none
       | _=>bif retS K H' rs then some (zg5 (za1 K H' nx' rs),gcH nx (zg5 (za1 K H' nx' rs)) H' nx',nx') else none
      | none=>none
     else none
    | none=>none
   | none=>none
  | none=>none
def zlV:Nat→Kn→Kn
 | _,[]=>[]
 | m,(j,v)::t=>bif Nat.testBit m j then (j,v)::zlV (Nat.xor m (Nat.shiftLeft 1 j)) t else zlV m t
theorem zxy {m j i:Nat}:Nat.testBit (Nat.xor m (Nat.shiftLeft 1 j)) i=(Nat.testBit m i ^^ Nat.beq j i):=by
 have h:Nat.shiftLeft 1 j=2 ^ j:=by
  show 1 <<< j=2 ^ j
  rw [Nat.shiftLeft_eq,Nat.one_mul]
 rw [h]
 have h2:Nat.xor m (2 ^ j)=m ^^^ 2 ^ j:=rfl
 rw [h2,Nat.testBit_xor,Nat.testBit_two_pow]
 congr 1
 cases hb:Nat.beq j i with
 | true=>exact decide_eq_true (zj hb)
 | false=>exact decide_eq_false fun e=>by rw [e,zcg] at hb;cases hb
theorem zlL:∀ (K:Kn) (m:Nat) (i:Nat),(zlV m K).get i=bif Nat.testBit m i then K.get i else .undef
 | [],m,i=>by simp only [zlV,Kn.get];cases Nat.testBit m i<;>rfl
 |
  (j,v)::t,m,i=>by
  unfold zlV
  cases hj:Nat.testBit m j with
  |
   true =>
   simp only [cond_true,Kn.get]
   cases hji:Nat.beq j i with
   |
    true =>
    rw [← zj hji,hj]
    rfl
   |
    false =>
    simp only [cond_false]
    rw [zlL t,zxy,hji,Bool.xor_false]
  |
   false =>
   simp only [cond_false,Kn.get]
   rw [zlL t]
   cases hji:Nat.beq j i with
   | true=>rw [← zj hji,hj];rfl
   | false=>rfl
def zyN:List Nat→Nat
 | m::_=>m
 | []=>0
def outR (r:ORes):AV × AH × Nat:=(r.v,r.H,r.nx)
def zyZ (P:Program) (call:zb8) (op:AOp) (ρ:Nat→AV) (H:AH) (nx:Nat):Option (AV × AH × Nat) :=
 match op with
 | .mov x=>some (ev ρ x,H,nx)
 | .load g n p=>bif zwm n (ev ρ p) H then some (outR (zdq g n (ev ρ p) H nx)) else none
 | .store n p v=>bif zsf n (ev ρ p) (ev ρ v) H then some (outR (zej n (ev ρ p) (ev ρ v) H nx)) else none
 | .idx sz x i=>bif idxS sz (ev ρ x) (ev ρ i) H then some (outR (idxR sz (ev ρ x) (ev ρ i) H nx)) else none
 | .fldaddr off n x=>bif zn7 off n (ev ρ x) then some (outR (zcv off n (ev ρ x) H nx)) else none
 | .fld off n g x=>bif fldS off n (ev ρ x) then some (outR (fldR off n g (ev ρ x) H nx)) else none
 | .len x=>bif lenS (ev ρ x) then some (outR (lenR (ev ρ x) H nx)) else none
 | .bin o x y=>bif binS o (ev ρ x) (ev ρ y) then some (outR (binI o (ev ρ x) (ev ρ y) H nx)) else none
 | .un o x=>bif unS o (ev ρ x) then some (outR (unR o (ev ρ x) H nx)) else none
 | .pick c a b=>bif zyS (ev ρ c) then some (outR (zj7 (ev ρ c) (ev ρ a) (ev ρ b) H nx)) else none
 | .append sz bytes x y=>bif zn0 sz bytes (ev ρ x) (ev ρ y) H then some (outR (zd5 sz bytes (ev ρ x) (ev ρ y) H nx)) else none
 | .ext i x=>bif extS i (ev ρ x) then some (outR (extR i (ev ρ x) H nx)) else none
 | op=>zmL P call op ρ H nx
theorem zxu {P:Program} {call:zb8} {op:AOp} {ρ:Nat→AV} {H:AH} {nx:Nat}:zyZ P call op ρ H nx=zmL P call op ρ H nx:=by
 cases op<;>rfl
def valS (P:Program) (call:zb8) (o:AOper) (ρ:Nat→AV) (H:AH) (nx:Nat):Option (AV × AH × Nat) :=
 match o.guard with
 | none=>zyZ P call o.op ρ H nx
 |
  some (t,want)=>match grd want (ρ t) with
  | some true=>zyZ P call o.op ρ H nx
  | some false=>some (.tup [],H,nx)
  | none=>none
theorem zzc {P:Program} {call:zb8} {o:AOper} {ρ:Nat→AV} {H:AH} {nx:Nat}:valS P call o ρ H nx=valX P call o ρ H nx:=by
 unfold valS valX
 simp only [zxu]<;>rcases o.guard with _ | ⟨t,want⟩<;>first | rfl | (rcases hg:grd want (ρ t) with _ | (_ | _)<;>simp only [hg])
def zuK (K:Kn):Option Nat→AV→Kn
 | none,_=>K
 | some d,v=>(d,v)::K
theorem zmr {K1 K:Kn} (h:K.get=K1.get) (d:Option Nat) (v:AV):(setO K d v).get=(zuK K1 d v).get:=by
 cases d with
 | none=>exact h
 |
  some d =>
  funext i
  simp only [setO,zuK,Kn.get_set,Kn.get]
  by_cases hi:i=d
  · rw [if_pos hi,hi,zcg];rfl
  · rw [if_neg hi,ze7 (Ne.symm hi),h];rfl
def opsP (P:Program) (call:zb8):List AOper→Kn→AH→Nat→Option St3
 | [],K,H,nx=>some (K,H,nx)
 |
  o::os,K,H,nx=>match valS P call o K.get H nx with
  | some (v,H',nx')=>opsP P call os (zuK K o.dst v) H' nx'
  | none=>none
def zs1 (P:Program) (call:zb8):DTree→Kn→AH→Nat→Option St3
 | .done,K,H,nx=>some (K,H,nx)
 | .stop,_,_,_=>none
 |
  .step o t,K,H,nx=>match valS P call o K.get H nx with
  | some (v,H',nx')=>zs1 P call t (zuK K o.dst v) H' nx'
  | none=>none
 |
  .alt o t .stop,K,H,nx=>match valS P call o K.get H nx with
  | some (v,H',nx')=>zs1 P call t (zuK K o.dst v) H' nx'
  | none=>none
 | .alt _ _ _,_,_,_=>none
theorem zoj {call:zb8} {o:AOper} {K K1:Kn} (hk:K.get=K1.get) {H:AH} {nx:Nat} {v:AV} {H':AH} {nx':Nat} (h:valS P call o K1.get H nx=some (v,H',nx')):oneX P call o K H nx=some (setO K o.dst v,H',nx'):=by
 rw [zzc] at h
 unfold valX at h
 unfold oneX
 rw [hk]
 cases hg:o.guard with
 |
  none =>
  rw [hg] at h
  simp only at h ⊢
  rw [h]
 |
  some p =>
  obtain ⟨t,want⟩:=p
  rw [hg] at h
  simp only at h ⊢
  split at h
  ·
   rename_i e
   simp only [e,h]
  ·
   rename_i e
   cases h
   simp only [e]
  · cases h
theorem zt4 {call:zb8}:∀ {os:List AOper} {K1 K:Kn} {H:AH} {nx:Nat} {r:St3},opsP P call os K1 H nx=some r→K.get=K1.get→∃ K',zup P call os K H nx=some (K',r.2)∧K'.get=r.1.get
 |
  [],K1,K,H,nx,r,h,hk=>by
  cases h
  exact ⟨K,rfl,hk⟩
 |
  o::os,K1,K,H,nx,r,h,hk=>by
  simp only [opsP] at h
  split at h
  ·
   rename_i v H' nx' e
   obtain ⟨K',h1,h2⟩:=zt4 h (zmr hk o.dst v)
   refine ⟨K',?_,h2⟩
   simp only [zup,zoj hk e]
   exact h1
  · cases h
theorem zoc {call:zb8}:∀ {t:DTree} {K1 K:Kn} {H:AH} {nx:Nat} {r:St3},zs1 P call t K1 H nx=some r→K.get=K1.get→∃ K',zk5 P call t K H nx=some (K',r.2)∧K'.get=r.1.get
 |
  .done,K1,K,H,nx,r,h,hk=>by
  cases h
  exact ⟨K,rfl,hk⟩
 | .stop,_,_,_,_,_,h,_=>by cases h
 |
  .step o t,K1,K,H,nx,r,h,hk=>by
  simp only [zs1] at h
  split at h
  ·
   rename_i v H' nx' e
   obtain ⟨K',h1,h2⟩:=zoc h (zmr hk o.dst v)
   refine ⟨K',?_,h2⟩
   simp only [zk5,zoj hk e]
   exact h1
  · cases h
 |
  .alt o t .stop,K1,K,H,nx,r,h,hk=>by
  simp only [zs1] at h
  split at h
  ·
   rename_i v H' nx' e
   obtain ⟨K',h1,h2⟩:=zoc h (zmr hk o.dst v)
   refine ⟨K',?_,h2⟩
   simp only [zk5,zoj hk e]
   exact h1
  · cases h
 | .alt _ _ .done,_,_,_,_,_,h,_=>by cases h
 | .alt _ _ (.step _ _),_,_,_,_,_,h,_=>by cases h
 | .alt _ _ (.alt _ _ _),_,_,_,_,_,h,_=>by cases h
def outK (l:Nat):Option St3→Option Out
 | some (K,H,nx)=>some (.normal,zlV l K,H,nx)
 | none=>none
def regX (P:Program) (call:zb8) (nt:Nat) (q:Nat→List Nat) (id:Nat) (ops:Array Oper) (draw:Bool) (K:Kn) (H:AH) (nx:Nat):Option Out :=
 match ops.toList.mapM (zvv P nt ops) with
 | none=>none
 |
  some as'=>bif draw then
   (bif P.follows .mixedOrders&&(List.range ops.size).all (fun j=>((ops.toList.map zdy).getD j []).all fun i=>Nat.blt i j) then
    match zs1 P call (zjJ ((zeN (q id) 0 as').map (AOper.ro (q 999999))) (ops.toList.map zdy) ops.size (List.replicate ops.size false)) K H nx with
    | some r=>outK (zyN (q 999998)) (some r)
    | none=>outK (zyN (q 999998)) (zzI P call ((zeN (q id) 0 as').map (AOper.ro (q 999999))) (ops.toList.map zdy) K H nx)
   else none)
  else outK (zyN (q 999998)) (opsP P call (as'.map (AOper.ro (q 999999))) K H nx)
def zwY (l:Nat) (ex:Kn→AH→Nat→Option Out):Nat→Option Out→Option Out
 | 0,_=>none
 |
  m+1,r=>match r with
  | some (.goto l',K,H,nx)=>bif Nat.beq l' l then zwY l ex m (ex K H nx) else none
  | r=>r
def zfG (P:Program) (qf:FuncId→Nat→List Nat) (orc:zb8):Nat→Nat→(Nat→List Nat)→Code→Kn→AH→Nat→Option Out
 | 0,_,_,_,_,_,_=>none
 |
  n+1,nt,q,c,K,H,nx=>match c with
  | .skip=>some (.normal,K,H,nx)
  | .region id ops draw=>regX P (zuV P qf orc (zfG P qf orc n)) nt q id ops draw K H nx
  |
   .seq a b=>match zfG P qf orc n nt q a K H nx with
   | some (.normal,K',H',nx')=>zfG P qf orc n nt q b K' H' nx'
   | r=>r
  |
   .cond c a b=>match copd c with
   |
    some x=>match ev K.get x with
    | .bool true=>zfG P qf orc n nt q a K H nx
    | .bool false=>zfG P qf orc n nt q b K H nx
    | _=>none
   | none=>none
  |
   .block id c=>match zfG P qf orc n nt q c K H nx with
   | some (.exit j,K',H',nx')=>bif Nat.beq j id then some (.normal,K',H',nx') else some (.exit j,K',H',nx')
   | r=>r
  |
   .loop c=>match zfG P qf orc n nt q c K H nx with
   | some (.normal,K',H',nx')=>zfG P qf orc n nt q (.loop c) K' H' nx'
   | r=>r
  | .exit id=>some (.exit id,K,H,nx)
  | .ret=>some (.ret,K,H,nx)
  |
   .scope c=>match zfG P qf orc n nt q c K H nx with
   |
    some (.goto l,K',H',nx')=>match findLabel c l with
    | some rest=>zwY l (zfG P qf orc n nt q rest) n (zfG P qf orc n nt q rest K' H' nx')
    | none=>none
   | r=>r
  | .label _=>some (.normal,K,H,nx)
  | .goto l=>some (.goto l,K,H,nx)
  | _=>none
variable {qf:FuncId→Nat→List Nat} {orc:zb8}
def RunC (P:Program) (qf:FuncId→Nat→List Nat) (orc:zb8) (n:Nat):Prop :=
 ∀ (nt:Nat) (L:Nat→Prop) (w0:World) (ι0:Inj) (H0:AH) (B:Nat),RelH w0 L ι0 H0 B→∀ (q:Nat→List Nat) (c:Code) (w:World) (ι:Inj) (K:Kn) (H:AH) (nx:Nat) (a:Act) (r:Out),
  In nt w0 L ι0 H0 B w ι K.get H nx a→zfG P qf orc n nt q c K H nx=some r→c.wp P (QQ nt w0 L ι0 H0 B (QX r)) a w
def zsi (P:Program) (qf:FuncId→Nat→List Nat) (orc:zb8) (n:Nat):Prop :=
 ∀ (nt:Nat) (L:Nat→Prop) (w0:World) (ι0:Inj) (H0:AH) (B:Nat),RelH w0 L ι0 H0 B→∀ (q:Nat→List Nat) (c:Code) (w:World) (ι:Inj) (K:Kn) (H:AH) (nx:Nat) (a:Act) (r:Out),
  In nt w0 L ι0 H0 B w ι K.get H nx a→zfG P qf orc n nt q (.loop c) K H nx=some r→Code.rounds P c (QQ nt w0 L ι0 H0 B (QX r)) n a w
theorem zzv {f:FuncId} {fn:Func} {c:Code} {rs:List ARet} (hf:P.funcs[f]? = some fn) (hb:fn.body=some c) (hr:fn.results.toList.mapM (cret P)=some rs) {args:List AV} {H:AH} {nx:Nat} {Post:AV→AH→Nat→Prop} (hn:args.length≤fn.ntmps)
  (h:∀ (w:World) (L:Nat→Prop) (ι:Inj) (a:Act),RelH w L ι H nx→In fn.ntmps w L ι H nx w ι (zil 0 args).get H nx a→c.wp P (QQ fn.ntmps w L ι H nx (retK rs Post)) a w):zN P f args H nx Post:=by
 intro w L ι vs rel hv
 have hlen:vs.size=args.length:=by simpa using hv.length
 refine calls_of_wp hf hb ?_
 have hin:In fn.ntmps w L ι H nx w ι (zil 0 args).get H nx { tmps:=vs++Array.replicate (fn.ntmps - vs.size) undef,defers:=[] }:=by
  refine ⟨by simp;omega,rfl, .refl rel,Nat.le_refl _,fun i=>?_⟩
  rw [zmc,if_pos (Nat.zero_le _),Nat.sub_zero]
  rcases Nat.lt_or_ge i args.length with hi | hi
  ·
   have h1:i < vs.size:=by omega
   refine hv.get i _ _ ?_ (by simp [List.getD,List.getElem?_eq_getElem hi])
   simp [Array.getD_eq_getD_getElem?,Array.getElem?_append,h1]
  ·
   rw [show args.getD i .undef=.undef by simp [List.getD,List.getElem?_eq_none hi]]
   exact .undef _ _
 refine wp_mono (h w L ι _ rel hin) fun e a' w' ⟨ι',K,H',nx',hin',hq⟩=>?_
 have fin:zco K H' nx' rs∧Post (zg5 (za1 K H' nx' rs)) H' nx'→a'.defers=[]∧∃ v,(results fn a'.tmps).run P w'=.ok v w'∧∃ v_1 ι' H' nx' a,Ending.returned v=.returned v_1∧Step w L ι H nx w' ι' H' nx'∧nx≤nx'∧VR w' (Lt L ι' H') ι' v_1 a∧Post a H' nx':=by
  intro ⟨h1,h2⟩
  obtain ⟨us,h3,h4⟩:=zsj hin'.st.rel hin'.kn _ _ hr h1
  obtain ⟨v,h5,h6⟩:=zni h3 h4
  exact ⟨hin'.defers,v,h5,v,ι',H',nx',_,rfl,hin'.st,hin'.le,h6,h2⟩
 cases e with
 | normal=>exact fin hq
 | ret=>exact fin hq
 | exit id=>exact hq.elim
 | _=>exact hq.elim
theorem zlP (ho:orc.Sound P) {n:Nat} (hr:RunC P qf orc n):(zuV P qf orc (zfG P qf orc n)).Sound P:=by
 intro f args H nx r h
 unfold zuV at h
 split at h
 ·
  rename_i r' e
  cases h
  exact ho f args H nx _ e
 ·
  split at h
  ·
   rename_i fn hf
   split at h
   ·
    rename_i c hb
    split at h
    ·
     rename_i rs hrs
     cases hble:Nat.ble args.length fn.ntmps with
     | false=>rw [hble] at h;cases h
     |
      true =>
      rw [hble] at h
      simp only [cond_true] at h
      split at h
      ·
       rename_i e K H' nx' he
       have key:(∀ id,e≠.exit id)→(∀ l,e≠.goto l)→(bif retS K H' rs then some (zg5 (za1 K H' nx' rs),gcH nx (zg5 (za1 K H' nx' rs)) H' nx',nx') else none)=some r→zN P f args H nx (fun v H' nx'=>(v,H',nx')=r):=by
        intro hne hng h
        cases hs:retS K H' rs with
        | false=>rw [hs] at h;cases h
        |
         true =>
         rw [hs] at h
         simp only [cond_true,Option.some.injEq] at h
         subst h
         refine zzF (zzv hf hb hrs (bleT hble) fun w L ι a rel hin=>?_)
         refine wp_mono (hr fn.ntmps L w ι H nx rel (qf f) c w ι _ H nx a _ hin he) fun e' a' w' ⟨ι',K',H2,nx2,hin',hq⟩=>⟨ι',K',H2,nx2,hin',?_⟩
         have hk:retK rs (fun v H'' nx''=>(v,gcH nx v H'' nx'',nx'')=(zg5 (za1 K H' nx' rs),gcH nx (zg5 (za1 K H' nx' rs)) H' nx',nx')) e K H' nx':=by
          cases e with
          | exit id=>exact absurd rfl (hne id)
          | goto l=>exact absurd rfl (hng l)
          | normal=>exact ⟨zoi hs,rfl⟩
          | ret=>exact ⟨zoi hs,rfl⟩
         cases e' with
         | normal=>cases hq;exact hk
         | exit id=>cases hq;exact absurd rfl (hne id)
         | ret=>cases hq;exact hk
         | goto l=>cases hq;exact absurd rfl (hng l)
         | _=>exact hq.elim
       cases e with
       | exit id=>cases h
       | goto l=>cases h
       | normal=>exact key (by intro id e;cases e) (by intro id e;cases e) h
       | ret=>exact key (by intro id e;cases e) (by intro id e;cases e) h
      · cases h
    · cases h
   · cases h
  · cases h
theorem Kn.drop_nil:∀ K:Kn,K.drop []=K
 | []=>rfl
 |
  (j,v)::t=>by
  show (j,v)::Kn.drop t []=(j,v)::t
  rw [Kn.drop_nil t]
theorem zrj {l:Nat} {r:Option St3} {o:Out} (h:outK l r=some o):∃ s,r=some s∧o=(.normal,zlV l s.1,s.2.1,s.2.2):=by
 cases r with
 | none=>cases h
 | some s=>obtain ⟨K,H,nx⟩:=s;cases h;exact ⟨_,rfl,rfl⟩
theorem In.less {nt:Nat} {w0:World} {L:Nat→Prop} {ι0:Inj} {H0:AH} {B:Nat} {w:World} {ι:Inj} {ρ ρ2:Nat→AV} {H:AH} {nx:Nat} {a:Act} (h:In nt w0 L ι0 H0 B w ι ρ H nx a) (hr:∀ i,ρ2 i=.undef∨ρ2 i=ρ i):In nt w0 L ι0 H0 B w ι ρ2 H nx a :=
 ⟨h.size,h.defers,h.st,h.le,fun i=>by rcases hr i with e | e<;>rw [e];exact .undef _ _;exact h.kn i⟩
theorem zts {l:Nat} {K K':Kn} (h:K'.get=K.get) (i:Nat):(zlV l K).get i=.undef∨(zlV l K).get i=K'.get i:=by
 rw [zlL,h]
 cases Nat.testBit l i
 · exact .inl rfl
 · exact .inr rfl
theorem zrv {c:Code} {nt:Nat} {w0:World} {L:Nat→Prop} {ι0:Inj} {H0:AH} {B:Nat} {l:Nat} {K K':Kn} {H:AH} {nx:Nat} {a:Act} {w:World} (hk:K'.get=K.get)
  (h:c.wp P (QQ nt w0 L ι0 H0 B (QX (.normal,K',H,nx))) a w):c.wp P (QQ nt w0 L ι0 H0 B (QX (.normal,zlV l K,H,nx))) a w:=by
 refine wp_mono h fun e' a' w' ⟨ι',K1,H1,nx1,hin',hq⟩=>?_
 cases e' with
 | normal=>cases hq;exact ⟨ι',zlV l K,_,_,hin'.less (zts hk),rfl⟩
 | exit id=>cases hq
 | ret=>cases hq
 | goto l=>cases hq
 | _=>exact hq.elim
theorem zzz {call:zb8} (hs:call.Sound P) {nt:Nat} {w0:World} {L:Nat→Prop} {ι0:Inj} {H0:AH} {B:Nat} (base:RelH w0 L ι0 H0 B) {q:Nat→List Nat} {id:Nat} {ops:Array Oper} {draw:Bool} {K:Kn} {H:AH} {nx:Nat} {w:World} {ι:Inj} {a:Act} {r:Out}
  (hin:In nt w0 L ι0 H0 B w ι K.get H nx a) (h:regX P call nt q id ops draw K H nx=some r):(Code.region id ops draw).wp P (QQ nt w0 L ι0 H0 B (QX r)) a w:=by
 unfold regX at h
 split at h
 · cases h
 ·
  rename_i as' hm
  obtain ⟨h1,h2⟩:=zoA hm
  cases draw with
  |
   false =>
   simp only [cond_false] at h
   obtain ⟨s,e0,rfl⟩:=zrj h
   obtain ⟨K',e,hk⟩:=zt4 e0 rfl
   refine zrv hk ?_
   refine wp_region_list (zku _ _ (by simpa using h1) (fun i o ao h3 h4=>?_) hin (zr2 (drop:=[]) hs e ?_))
   ·
    rw [List.getElem?_map] at h4
    obtain ⟨b,h5,rfl⟩:=Option.map_eq_some_iff.1 h4
    exact (h2 i o b h3 h5).ro
   ·
    have:K'.drop []=K':=Kn.drop_nil _
    rw [this]
    rfl
  |
   true =>
   simp only [cond_true] at h
   generalize hg:(P.follows .mixedOrders&&_)=b at h
   cases b with
   | false=>cases h
   |
    true =>
    simp only [Bool.and_eq_true] at hg
    simp only [cond_true] at h
    have hlen:((zeN (q id) 0 as').map (AOper.ro (q 999999))).length=ops.size:=by rw [List.length_map,zgM,h1];simp
    have hrel:∀ (i:Nat) (o:Oper) (ao:AOper),ops.toList[i]? = some o→((zeN (q id) 0 as').map (AOper.ro (q 999999)))[i]? = some ao→OpRel P nt ops o ao:=fun i o ao h3 h4=>by
     rw [List.getElem?_map] at h4
     obtain ⟨b0,h40,rfl⟩:=Option.map_eq_some_iff.1 h4
     obtain ⟨b,h5,h6⟩:=zjw _ _ _ _ _ h40
     rcases h6 with rfl | rfl
     · exact (h2 i o _ h3 h5).ro
     · exact (h2 i o _ h3 h5).quiet.ro
    split at h
    ·
     rename_i s e0
     obtain ⟨s2,e',rfl⟩:=zrj h
     cases e'
     obtain ⟨K',e,hk⟩:=zoc e0 rfl
     refine zrv hk ?_
     refine znK nt w0 L ι0 H0 B id ops _ [] _ hlen hrel hg.1 hg.2 w ι K H nx a hin (zmm hs e ?_)
     rw [Kn.drop_nil]
     rfl
    ·
     obtain ⟨s,e,rfl⟩:=zrj h
     exact zrv rfl (zwD hs base hlen hrel hg.1 hin e rfl)
theorem zuI (ho:orc.Sound P):∀ n,RunC P qf orc n∧zsi P qf orc n
 | 0=>⟨fun _ _ _ _ _ _ _ _ _ _ _ _ _ _ _ _ _ h=>(by cases h),fun _ _ _ _ _ _ _ _ _ _ _ _ _ _ _ _ _ h=>(by cases h)⟩
 |
  n+1=>by
  obtain ⟨ihR,ihL⟩:=zuI ho n
  have hcall:=zlP ho ihR
  have loopStep:zsi P qf orc (n+1):=by
   intro nt L w0 ι0 H0 B base q c w ι K H nx a r hin h
   rw [rounds_succ]
   simp only [zfG] at h
   split at h
   ·
    rename_i K' H' nx' e
    refine wp_mono (ihR nt L w0 ι0 H0 B base q c w ι K H nx a _ hin e) fun e' a' w' ⟨ι',K1,H1,nx1,hin',hq⟩=>?_
    cases e' with
    | normal=>cases hq;exact ihL nt L w0 ι0 H0 B base q c w' ι' _ _ _ a' r hin' h
    | exit id=>cases hq
    | ret=>cases hq
    | goto l=>cases hq
    | _=>exact hq.elim
   ·
    rename_i r' hne
    refine wp_mono (ihR nt L w0 ι0 H0 B base q c w ι K H nx a r hin h) fun e' a' w' ⟨ι',K1,H1,nx1,hin',hq⟩=>?_
    cases e' with
    | normal=>cases hq;exact absurd h (hne K1 H1 nx1)
    | exit id=>exact ⟨ι',K1,H1,nx1,hin',hq⟩
    | ret=>exact ⟨ι',K1,H1,nx1,hin',hq⟩
    | goto l=>exact ⟨ι',K1,H1,nx1,hin',hq⟩
    | _=>exact hq.elim
  refine ⟨?_,loopStep⟩
  intro nt L w0 ι0 H0 B base q c w ι K H nx a r hin h
  cases c with
  | skip=>cases h;exact wp_skip ⟨ι,K,H,nx,hin,rfl⟩
  | label l=>cases h;exact wp_label ⟨ι,K,H,nx,hin,rfl⟩
  | goto l=>cases h;exact wp_goto ⟨ι,K,H,nx,hin,rfl⟩
  | exit id=>cases h;exact wp_exit ⟨ι,K,H,nx,hin,rfl⟩
  | ret=>cases h;exact wp_ret ⟨ι,K,H,nx,hin,rfl⟩
  | region id ops draw=>exact zzz hcall base hin h
  |
   seq c1 c2 =>
   simp only [zfG] at h
   split at h
   ·
    rename_i K' H' nx' e
    refine wp_seq (wp_mono (ihR nt L w0 ι0 H0 B base q c1 w ι K H nx a _ hin e) fun e' a' w' ⟨ι',K1,H1,nx1,hin',hq⟩=>?_)
    cases e' with
    | normal=>cases hq;exact ihR nt L w0 ι0 H0 B base q c2 w' ι' _ _ _ a' r hin' h
    | exit id=>cases hq
    | ret=>cases hq
    | goto l=>cases hq
    | _=>exact hq.elim
   ·
    rename_i r' hne
    refine wp_seq (wp_mono (ihR nt L w0 ι0 H0 B base q c1 w ι K H nx a r hin h) fun e' a' w' ⟨ι',K1,H1,nx1,hin',hq⟩=>?_)
    cases e' with
    | normal=>cases hq;exact absurd h (hne K1 H1 nx1)
    | exit id=>exact ⟨ι',K1,H1,nx1,hin',hq⟩
    | ret=>exact ⟨ι',K1,H1,nx1,hin',hq⟩
    | goto l=>exact ⟨ι',K1,H1,nx1,hin',hq⟩
    | _=>exact hq.elim
  |
   cond x1 c1 c2 =>
   simp only [zfG] at h
   split at h
   ·
    rename_i x' hx
    have hv:=zl hin.kn hx
    split at h
    ·
     rename_i hev
     rw [hev] at hv
     generalize hu:a.eval x1=u at hv
     cases hv
     exact wp_cond_true hu (ihR nt L w0 ι0 H0 B base q c1 w ι K H nx a r hin h)
    ·
     rename_i hev
     rw [hev] at hv
     generalize hu:a.eval x1=u at hv
     cases hv
     exact wp_cond_false hu (ihR nt L w0 ι0 H0 B base q c2 w ι K H nx a r hin h)
    · cases h
   · cases h
  |
   block id c1 =>
   simp only [zfG] at h
   split at h
   ·
    rename_i j K' H' nx' e
    refine wp_block (wp_mono (ihR nt L w0 ι0 H0 B base q c1 w ι K H nx a _ hin e) fun e' a' w' ⟨ι',K1,H1,nx1,hin',hq⟩=>?_)
    cases e' with
    | normal=>cases hq
    |
     exit j' =>
     cases hq
     simp only [Exit.inBlock]
     by_cases hj:j=id
     ·
      subst hj
      rw [if_pos rfl]
      rw [zcg] at h
      cases h
      exact ⟨ι',_,_,_,hin',rfl⟩
     ·
      rw [if_neg hj]
      rw [ze7 hj] at h
      cases h
      exact ⟨ι',_,_,_,hin',rfl⟩
    | ret=>cases hq
    | goto l=>cases hq
    | _=>exact hq.elim
   ·
    rename_i r' hne
    refine wp_block (wp_mono (ihR nt L w0 ι0 H0 B base q c1 w ι K H nx a r hin h) fun e' a' w' ⟨ι',K1,H1,nx1,hin',hq⟩=>?_)
    cases e' with
    | normal=>exact ⟨ι',K1,H1,nx1,hin',hq⟩
    | exit j'=>cases hq;exact absurd h (hne j' K1 H1 nx1)
    | ret=>exact ⟨ι',K1,H1,nx1,hin',hq⟩
    | goto l=>exact ⟨ι',K1,H1,nx1,hin',hq⟩
    | _=>exact hq.elim
  | loop c1=>exact wp_loop_rounds (n+1) (loopStep nt L w0 ι0 H0 B base q c1 w ι K H nx a r hin h)
  |
   scope c1 =>
   simp only [zfG] at h
   split at h
   ·
    rename_i l K' H' nx' e
    split at h
    ·
     rename_i rest hrest
     let G:Nat→Act→World→Prop:=fun m a w=>∃ ι K H nx,In nt w0 L ι0 H0 B w ι (Kn.get K) H nx a∧zwY l (zfG P qf orc n nt q rest) m (zfG P qf orc n nt q rest K H nx)=some r
     have jm:∀ {Q:Exit→Act→World→Prop} {J J':Act→World→Prop} {cz:Code} {a:Act} {w:World},(∀ a w,J a w→J' a w)→cz.wp P (Exit.jump l J Q) a w→cz.wp P (Exit.jump l J' Q) a w:=by
      intro Q J J' cz a w hJ h
      refine wp_mono h fun e' a' w' hq=>?_
      cases e' with
      | goto l'=>exact ⟨hq.1,hJ _ _ hq.2⟩
      | _=>exact hq
     refine wp_scope_jumps l (fun a w=>∃ m,G m a w) (zhd G) hrest ?_ ?_
     ·
      refine wp_mono (ihR nt L w0 ι0 H0 B base q c1 w ι K H nx a _ hin e) fun e' a' w' ⟨ι',K1,H1,nx1,hin',hq⟩=>?_
      cases e' with
      | goto l'=>cases hq;exact ⟨rfl,n,ι',_,_,_,hin',h⟩
      | normal=>cases hq
      | exit id=>cases hq
      | ret=>cases hq
      | _=>exact hq.elim
     ·
      intro a' w' hJ
      obtain ⟨ι',K1,H1,nx1,hin',hex⟩:=zkV hJ
      cases hm0:zhd G a' w' with
      | zero=>rw [hm0] at hex;cases hex
      |
       succ m =>
       rw [hm0] at hex
       cases hz:zfG P qf orc n nt q rest K1 H1 nx1 with
       | none=>rw [hz] at hex;cases hex
       |
        some o =>
        obtain ⟨e1,K2,H2,nx2⟩:=o
        refine jm (fun a2 w2 (h:G m a2 w2)=>⟨⟨_,h⟩,Nat.lt_succ_of_le (znq h)⟩) (wp_mono (ihR nt L w0 ι0 H0 B base q rest w' ι' K1 H1 nx1 a' _ hin' hz) fun e' a2 w2 ⟨ι2,K3,H3,nx3,hin2,hq⟩=>?_)
        rw [hz] at hex
        cases e' with
        |
         goto l' =>
         cases hq
         simp only [zwY] at hex
         cases hb:Nat.beq l' l with
         | false=>rw [hb] at hex;cases hex
         |
          true =>
          rw [hb] at hex
          exact ⟨zj hb,ι2,_,_,_,hin2,hex⟩
        | normal=>cases hq;cases hex;exact ⟨ι2,_,_,_,hin2,rfl⟩
        | exit id=>cases hq;cases hex;exact ⟨ι2,_,_,_,hin2,rfl⟩
        | ret=>cases hq;cases hex;exact ⟨ι2,_,_,_,hin2,rfl⟩
        | _=>exact hq.elim
    · cases h
   ·
    rename_i r' hne
    refine wp_scope_straight (wp_mono (ihR nt L w0 ι0 H0 B base q c1 w ι K H nx a r hin h) fun e' a' w' ⟨ι',K1,H1,nx1,hin',hq⟩=>?_)
    cases e' with
    | normal=>exact ⟨ι',K1,H1,nx1,hin',hq⟩
    | exit id=>exact ⟨ι',K1,H1,nx1,hin',hq⟩
    | ret=>exact ⟨ι',K1,H1,nx1,hin',hq⟩
    | goto l=>cases hq;exact absurd h (hne l K1 H1 nx1)
    | _=>exact hq.elim
  | _=>cases h
theorem zsE (ho:orc.Sound P) (n:Nat) {f:FuncId} {args:List AV} {H:AH} {nx:Nat} {r:AV × AH × Nat} (h:zuV P qf orc (zfG P qf orc n) f args H nx=some r):zN P f args H nx (fun v H' nx'=>(v,H',nx')=r) :=
 zlP ho (zuI ho n).1 f args H nx r h
def zua (b:Bool):Option (AV × AH × Nat)→Bool
 | some (.bool c,_,_)=>c == b
 | _=>false
theorem zsP (ho:orc.Sound P) (n:Nat) {f:FuncId} {args:List AV} {b:Bool} (h:zua b (zuV P qf orc (zfG P qf orc n) f args [] 0)=true):zE P f args (·=.bool b):=by
 unfold zua at h
 split at h
 ·
  rename_i c H' nx' e
  have hb:c=b:=by simpa using h
  subst hb
  exact (zsE ho n e).mono fun v H1 nx1 he=>by
   cases he
   exact ⟨_, .bool _ _,rfl⟩
 · cases h
def qEx:List (Nat × List Nat)→Nat→List Nat
 | [],_=>List.range 150
 | (j,l)::t,i=>bif Nat.beq j i then (List.range 150).filter (fun x => !memN l x) else qEx t i
def qTabK:List (Nat × List Nat × List Nat × List (Nat × List Nat))→FuncId→Nat→List Nat
 | [],_=>qAll
 | (g,ro,kp,ex)::t,f=>bif Nat.beq g f then (fun id=>bif Nat.beq id 999999 then ro else bif Nat.beq id 999998 then kp else qEx ex id) else qTabK t f
end
def frB (m:Bool) (H:AH):Nat→AV→AV→Bool
 | 0,_,_=>false
 |
  d+1,b,a=>match a with
  | .undef=>true
  |
   .int k n=>match b with
   | .int k' n'=>decide (k'=k)&&decide (n'=n)
   | _=>false
  |
   .bool x=>match b with
   | .bool y=>y == x
   | _=>false
  |
   .str s=>match b with
   | .str t=>decide (t=s)
   | _=>false
  |
   .nilp=>match b with
   | .nilp=>true
   | _=>false
  |
   .nilfn=>match b with
   | .nilfn=>true
   | _=>false
  |
   .cut=>match b with
   | .cut=>true
   | _=>false
  |
   .nilsl=>match b with
   | .nilsl=>true
   | _=>false
  |
   .sl sz n f=>match b with
   | .sl sz' n' f'=>Nat.beq sz' sz&&(Nat.beq n' n&&allB n fun i=>allB sz fun j=>frB m H d (f' i j) (f i j))
   | .nilsl=>Nat.beq n 0
   |
    .own r q g off n'=>m&&(match H.get r q with
    | some (.row sz' els g')=>Nat.beq sz' sz&&(Nat.beq n' n&&(Nat.beq g g'&&(Nat.ble n big&&(Nat.ble (off+n) els.length&&allB n fun i=>allB sz fun j=>frB m H d ((els.getD (off+i) []).getD j .undef) (f i j)))))
    | _=>false)
   | _=>false
  |
   .agg l=>match b with
   | .agg l'=>Nat.beq l'.length l.length&&allB l.length fun i=>frB m H d (l'.getD i .undef) (l.getD i .undef)
   | _=>false
  |
   .tup l=>match b with
   | .tup l'=>Nat.beq l'.length l.length&&allB l.length fun i=>frB m H d (l'.getD i .undef) (l.getD i .undef)
   | _=>false
  | _=>false
theorem zn3 {α:Type} {l:List α} {i:Nat} {a d:α} (h:l[i]? = some a):l.getD i d=a:=by rw [List.getD_eq_getElem?_getD,h];rfl
theorem zpL {H:AH} {m:Bool} {D:Nat→Nat→Prop} (hD:m=true→∀ r q,D r q):∀ (d:Nat) (b a:AV),frB m H d b a=true→Vw H [] nos D false b a
 | 0,_,_,h=>by cases h
 |
  d+1,b,a,h=>by
  unfold frB at h
  split at h
  · exact .undef _ _
  ·
   split at h
   ·
    simp only [Bool.and_eq_true,decide_eq_true_eq] at h
    obtain ⟨rfl,rfl⟩:=h
    exact .int _ _ _
   · cases h
  ·
   split at h
   ·
    simp only [beq_iff_eq] at h
    subst h
    exact .bool _ _
   · cases h
  ·
   split at h
   ·
    simp only [decide_eq_true_eq] at h
    subst h
    exact .str _ _
   · cases h
  ·
   split at h
   · exact .nilp _
   · cases h
  ·
   split at h
   · exact .nilfn _
   · cases h
  ·
   split at h
   · exact .cut _
   · cases h
  ·
   split at h
   · exact .nilsl _
   · cases h
  ·
   split at h
   ·
    rename_i sz' n' f'
    simp only [Bool.and_eq_true] at h
    obtain ⟨h1,h2,h3⟩:=h
    obtain rfl:=zj h1
    obtain rfl:=zj h2
    exact .slf _ _ _ _ _ fun i j hi hj=>zpL hD d _ _ (zbk (zbk h3 hi) hj)
   ·
    obtain rfl:=zj h
    exact .nil0 _ _ _
   ·
    rename_i r q g off n'
    rw [Bool.and_eq_true] at h
    obtain ⟨hm,h⟩:=h
    split at h
    ·
     rename_i sz' els g' hg
     simp only [Bool.and_eq_true] at h
     obtain ⟨h1,h2,h3,h4,h5,h6⟩:=h
     obtain rfl:=zj h1
     obtain rfl:=zj h2
     obtain rfl:=zj h3
     exact .frz _ r q g off n' sz' els _ (hD hm r q) hg (bleT h4) (bleT h5) fun i j hi hj=>zpL hD d _ _ (zbk (zbk h6 hi) hj)
    · cases h
   · cases h
  ·
   split at h
   ·
    rename_i l l'
    simp only [Bool.and_eq_true] at h
    obtain ⟨h1,h2⟩:=h
    have hl:=zj h1
    refine .agg _ _ _ hl fun i x y hx hy=>?_
    have:=zbk h2 (List.getElem?_eq_some_iff.1 hy).1
    rw [zn3 hx,zn3 hy] at this
    exact zpL hD d _ _ this
   · cases h
  ·
   split at h
   ·
    rename_i l l'
    simp only [Bool.and_eq_true] at h
    obtain ⟨h1,h2⟩:=h
    have hl:=zj h1
    refine .tup _ _ _ hl fun i x y hx hy=>?_
    have:=zbk h2 (List.getElem?_eq_some_iff.1 hy).1
    rw [zn3 hx,zn3 hy] at this
    exact zpL hD d _ _ this
   · cases h
  · cases h
def frBs (m:Bool) (H:AH):List AV→List AV→Bool
 | [],[]=>true
 | b::bs,a::asv=>frB m H 30 b a&&frBs m H bs asv
 | _,_=>false
theorem zqZ {H:AH} {m:Bool} {D:Nat→Nat→Prop} (hD:m=true→∀ r q,D r q):∀ {bs asv:List AV},frBs m H bs asv=true→Lend H D bs asv
 | [],[],_=>.nil
 |
  b::bs,a::asv,h=>by
  rw [frBs,Bool.and_eq_true] at h
  exact .cons (zpL hD 30 _ _ h.1) (zqZ hD h.2)
 | [],_::_,h=>by cases h
 | _::_,[],h=>by cases h
structure Memo where
 f:FuncId
 args:List AV
 res:AV
def zzg:List Memo→zb8→zb8
 | [],orc,f,args,H,nx=>orc f args H nx
 | e::t,orc,f,args,H,nx=>bif Nat.beq e.f f&&(bif e.res.scal then frBs true H args e.args else frBs false H args e.args) then some (e.res,H,nx) else zzg t orc f args H nx
theorem zlY {P:Program} {orc:zb8} (ho:orc.Sound P):∀ {l:List Memo},(∀ e∈l,zE P e.f e.args (·=e.res))→(zzg l orc).Sound P
 | [],_=>ho
 |
  e::t,hl=>by
  intro f args H nx r h
  unfold zzg at h
  cases hb:Nat.beq e.f f&&(bif e.res.scal then frBs true H args e.args else frBs false H args e.args) with
  | false=>rw [hb] at h;exact zlY ho (fun e' h'=>hl e' (List.mem_cons_of_mem _ h')) f args H nx r h
  |
   true =>
   rw [hb] at h
   cases h
   rw [Bool.and_eq_true] at hb
   obtain rfl:=zj hb.1
   have hb2:=hb.2
   cases hs:e.res.scal with
   |
    true =>
    rw [hs] at hb2
    exact (zaQ (D:=allR) (hl e (by simp)) (zqZ (fun _ _ _=>trivial) hb2) (.inl hs)).ok rfl
   |
    false =>
    rw [hs] at hb2
    exact (zaQ (D:=noR) (hl e (by simp)) (zqZ (fun h=>by cases h) hb2) (.inr fun _ _ h=>h)).ok rfl
def oN (d:Nat) (a:AOp):AOper:=⟨some d,a,none⟩
def oG (d t:Nat) (b:Bool) (a:AOp):AOper:=⟨some d,a,some (t,b)⟩
theorem evD:type_of% @evA∧type_of% @boxR.eq_1∧type_of% @znb.eq_1∧type_of% @zjQ.eq_1∧type_of% @fldR.eq_1∧type_of% @binI.eq_1∧type_of% @binI.eq_2∧type_of% @binI.eq_3∧type_of% @binI.eq_4∧type_of% @binI.eq_5∧type_of% @binI.eq_6∧type_of% @binI.eq_7∧type_of% @binI.eq_8∧type_of% @binI.eq_9∧type_of% @binI.eq_10∧type_of% @binI.eq_11∧type_of% @binI.eq_12∧type_of% @binI.eq_13∧type_of% @binI.eq_14∧type_of% @binI.eq_15∧type_of% @binI.eq_16∧type_of% @binI.eq_17∧type_of% @unR.eq_1∧type_of% @unR.eq_2∧type_of% @zj7.eq_1∧type_of% @zmS.eq_1∧type_of% @zjM.eq_1∧type_of% @zen.eq_1∧type_of% @zhI.eq_1∧type_of% @extR.eq_1∧type_of% @zlk.eq_1∧type_of% @eqB.eq_1∧type_of% @evU∧type_of% @zr0∧type_of% @oN.eq_1∧type_of% @oG.eq_1 :=
 ⟨@evA,@boxR.eq_1,@znb.eq_1,@zjQ.eq_1,@fldR.eq_1,@binI.eq_1,@binI.eq_2,@binI.eq_3,@binI.eq_4,@binI.eq_5,@binI.eq_6,@binI.eq_7,@binI.eq_8,@binI.eq_9,@binI.eq_10,@binI.eq_11,@binI.eq_12,@binI.eq_13,@binI.eq_14,@binI.eq_15,@binI.eq_16,@binI.eq_17,@unR.eq_1,@unR.eq_2,@zj7.eq_1,@zmS.eq_1,@zjM.eq_1,@zen.eq_1,@zhI.eq_1,@extR.eq_1,@zlk.eq_1,@eqB.eq_1,@evU,@zr0,@oN.eq_1,@oG.eq_1⟩
theorem evWB:type_of% @evWA∧type_of% @and_self∧type_of% @Int.natCast_zero∧type_of% @Int.natCast_one∧type_of% @Int.cast_ofNat_Int∧type_of% @evV∧type_of% @za.eq_1∧type_of% @zq0.eq_1∧type_of% @zot.eq_1∧type_of% @encP.eq_1 :=
 ⟨@evWA,@and_self,@Int.natCast_zero,@Int.natCast_one,@Int.cast_ofNat_Int,@evV,@za.eq_1,@zq0.eq_1,@zot.eq_1,@encP.eq_1⟩
theorem dcd:type_of% @decide_eq_true_eq∧type_of% @decide_eq_false_iff_not∧type_of% @Bool.not_eq_true'∧type_of% @Bool.not_eq_false'∧type_of% @Bool.and_eq_true∧type_of% @Bool.or_eq_true∧type_of% @not_true_eq_false∧type_of% @not_false_eq_true :=
 ⟨@decide_eq_true_eq,@decide_eq_false_iff_not,@Bool.not_eq_true',@Bool.not_eq_false',@Bool.and_eq_true,@Bool.or_eq_true,@not_true_eq_false,@not_false_eq_true⟩
theorem lb {p:Prop} (h:p:=by first | rfl | exact (dT (by omega)).symm | exact (dF (by omega)).symm | exact decide_eq_decide.2 (by omega)):p:=h
theorem hBig:big=9223372036854775807:=rfl
theorem fin5 {p:Prop} (h:p:=by (try simp [subK,Kn.get,zjG])<;>(repeat' with_reducible apply And.intro)<;>first | rfl | omega | (simp;done)):p:=h
theorem fin6 {p:Prop} (h:p:=by ((repeat' with_reducible apply And.intro)<;>first | omega | rfl | exact zhs (fun _=>rfl) | exact Vw.it _ _ rfl | exact Vw.mp _ _ _ _ rfl | exact zA zQ (by decide) ⟨rfl,rfl⟩ trivial | exact zA zQ (by decide) (fun _ _=>⟨rfl,rfl⟩) trivial | (refine zjA rfl ?_;(repeat' (first | exact ze zQ | exact zas | exact ze (fun _=>rfl) | exact ze (fun _=>zh) | exact ze (fun _=>zb) | exact zk zh | exact zk zb | exact zaA rfl | exact zaB | exact zk rfl | refine zW ?_ ?_ | refine zg rfl ?_ | refine zg zh ?_ | refine zg zb ?_));done) | exact zeW rfl | (refine RowV.of_flat ?_;(repeat' (first | exact ze zQ | exact zas | exact ze (fun _=>rfl) | exact ze (fun _=>zh) | exact ze (fun _=>zb) | exact zk zh | exact zk zb | exact zaA rfl | exact zaB | exact zk rfl | refine zW ?_ ?_ | refine zg rfl ?_ | refine zg zh ?_ | refine zg zb ?_));done) | ((repeat' (first | exact ze zQ | exact zas | exact ze (fun _=>rfl) | exact ze (fun _=>zh) | exact ze (fun _=>zb) | exact zk zh | exact zk zb | exact zaA rfl | exact zaB | exact zk rfl | refine zW ?_ ?_ | refine zg rfl ?_ | refine zg zh ?_ | refine zg zb ?_));done) | exact zgJ rfl rfl (by omega) | exact zcT rfl rfl (by omega) | exact zeZ rfl rfl (by omega) | exact zgK (fun _=>rfl) | exact zA (fun _=>rfl) (by decide) ⟨rfl,rfl⟩ trivial | exact zA (fun _=>rfl) (by decide) (fun _ _=>⟨rfl,rfl⟩) trivial | (simp;done))):p:=h
theorem fin7 {p:Prop} (h:p:=by ((repeat' with_reducible apply And.intro)<;>first | omega | rfl | exact zeW rfl | (refine RowV.of_flat ?_;(repeat' (first | exact ze (fun _=>rfl) | exact ze (fun _=>zh) | exact ze (fun _=>zb) | exact zk zh | exact zk zb | exact zaA rfl | exact zaB | exact zk rfl | refine zW ?_ ?_ | refine zg rfl ?_ | refine zg zh ?_ | refine zg zb ?_));done) | ((repeat' (first | exact ze (fun _=>rfl) | exact ze (fun _=>zh) | exact ze (fun _=>zb) | exact zk zh | exact zk zb | exact zaA rfl | exact zaB | exact zk rfl | refine zW ?_ ?_ | refine zg rfl ?_ | refine zg zh ?_ | refine zg zb ?_));done) | exact zxl rfl rfl (by omega) | exact zrX rfl rfl (by omega) | exact zym rfl rfl (by omega) | exact ztZ rfl rfl (by omega) | exact zgJ rfl rfl (by omega) | exact zcT rfl rfl (by omega) | exact zeZ rfl rfl (by omega) | exact zgK (fun _=>rfl) | exact zA (fun _=>rfl) (by decide) ⟨rfl,rfl⟩ trivial | exact zA (fun _=>rfl) (by decide) (fun _ _=>⟨rfl,rfl⟩) trivial | (simp;done))):p:=h
theorem fin8 {p:Prop} (h:p:=by (try simp only [evWB,Nat.reduceBEq,Nat.reduceAdd,Nat.reduceSub,Nat.reduceLeDiff,Nat.reduceLT,implies_true])<;>(repeat' with_reducible apply And.intro)<;>first | (refine zA zQ (by decide) ⟨rfl,rfl⟩ ?_;(try simp only [evWB,Nat.reduceBEq,Nat.reduceAdd,Nat.reduceSub,Nat.reduceLeDiff,Nat.reduceLT,implies_true])<;>(repeat' with_reducible apply And.intro)<;>first | (refine zA zQ (by decide) ⟨rfl,rfl⟩ ?_;(try simp only [evWB,Nat.reduceBEq,Nat.reduceAdd,Nat.reduceSub,Nat.reduceLeDiff,Nat.reduceLT,implies_true])<;>exact fin6;done) | exact fin6;done) | exact fin6):p:=h
theorem fin9 {p:Prop} (h:p:=by (try simp only [evWB,Nat.reduceBEq,Nat.reduceAdd,Nat.reduceSub,Nat.reduceLeDiff,Nat.reduceLT,implies_true])<;>exact fin6):p:=h
inductive MC where
 | hd (c:Int)
 | en (k b:Int)
def cm:MC→List AV
 | .hd c=>[.int .i64 c, .undef, .undef]
 | .en k b=>[.int .i64 k, .bool true, .int .i64 b]
theorem zQ:∀ a,zF (cm a)=true
 | .hd _=>rfl
 | .en _ _=>rfl
def enL (ps:List (Int × Int)):List MC:=ps.map fun p=>.en p.1 p.2
def setM (c:Int) (ps:List (Int × Int)):List MC:=.hd c::enL ps
theorem zn (c:Int) (ps:List (Int × Int)):(setM c ps).map cm=[.int .i64 c, .undef, .undef]::(enL ps).map cm:=rfl
def zy0 (r q:Nat) (o:Option AObj) (H:AH) (nx:Nat):ORes:=match o with
 |
  some (.row sz (hd::_) g)=>match hd with
  | [.int .i64 c,_,_]=>⟨sz=3∧g=0,True, .it nx,H.set nx 0 (.row 1 [[.mp r q],[.int .i64 c],[.int .i64 c]] 0),nx+1⟩
  | _=>bad H nx
 | _=>bad H nx
def mdTo (str:Option IntKind) (r q:Nat) (k:AV) (sz g:Nat) (hd:List AV) (es:List (List AV)) (o:Option (Option (Nat × AV))) (H:AH) (nx:Nat):ORes:=match o with
 | some (some (i,_))=>⟨sz=3∧g=0∧zgm str k,True, .tup [],H.set r q (.row 3 (hd::es.eraseIdx i) 0),nx⟩
 | some none=>⟨sz=3∧g=0∧zgm str k,True, .tup [],H,nx⟩
 | none=>bad H nx
def zzl (str:Option IntKind) (r q:Nat) (k:AV) (o:Option AObj) (H:AH) (nx:Nat):ORes:=match o with
 | some (.row sz (hd::es) g)=>mdTo str r q k sz g hd es (zfh k es 0) H nx
 | _=>bad H nx
theorem zoP {str:Option IntKind} {k:AV} {r q:Nat} {H:AH} {nx:Nat}:xopR (.mdel str) [.mp r q,k] H nx=zzl str r q k (H.get r q) H nx:=by
 show zj1 str (.mp r q) k H nx=_
 simp only [zj1,zzl]
 cases H.get r q with
 | none=>rfl
 |
  some o =>
  cases o with
  | fam _ _=>rfl
  |
   row sz els g =>
   cases els with
   | nil=>rfl
   | cons hd es=>rfl
theorem zlK {r q:Nat} {H:AH} {nx:Nat}:xopR .mrange [.mp r q] H nx=zy0 r q (H.get r q) H nx:=by
 show zes (.mp r q) H nx=_
 simp only [zes,zy0]
 cases H.get r q with
 | none=>rfl
 |
  some o =>
  cases o with
  | fam _ _=>rfl
  |
   row sz els g =>
   cases els with
   | nil=>rfl
   | cons hd es=>rfl
theorem zoC {k:Int}:∀ {ps:List (Int × Int)} {i:Nat},zfh (.int .i64 k) ((enL ps).map cm) i=some (match ps.findIdx? (fun p=>decide (p.1=k)) with
  | some j=>some (i+j, .bool true)
  | none=>none)
 | [],i=>rfl
 |
  p::ps,i=>by
  rw [List.findIdx?_cons]
  by_cases h:k=p.1
  ·
   rw [if_pos (decide_eq_true h.symm)]
   simp only [enL,List.map_cons,cm,zfh,zrM,if_true,decide_eq_true h,Nat.add_zero]
  ·
   rw [if_neg (by simp;exact fun e=>h e.symm)]
   have e:zfh (.int .i64 k) ((enL (p::ps)).map cm) i=zfh (.int .i64 k) ((enL ps).map cm) (i+1):=by
    simp only [enL,List.map_cons,cm,zfh,zrM,if_true,decide_eq_false h]
   rw [e,zoC]
   cases ps.findIdx? (fun p=>decide (p.1=k)) with
   | none=>rfl
   |
    some j =>
    simp only [Option.map_some]
    rw [show i+1+j=i+(j+1) by omega]
theorem zj2 {k:Int} {ps:List (Int × Int)} (h:k∈ps.map (·.1)):∃ j,∃ hj:j < ps.length,ps[j].1=k∧zfh (.int .i64 k) ((enL ps).map cm) 0=some (some (j, .bool true)):=by
 rw [zoC]
 cases hf:ps.findIdx? (fun p=>decide (p.1=k)) with
 |
  none =>
  obtain ⟨p,hp,rfl⟩:=List.mem_map.1 h
  have:=List.findIdx?_eq_none_iff.1 hf p hp
  simp at this
 |
  some j =>
  obtain ⟨h1,h2,_⟩:=List.findIdx?_eq_some_iff_getElem.1 hf
  exact ⟨j,h1,of_decide_eq_true h2,by simp⟩
theorem ziR {k:Int} {ps:List (Int × Int)} (h:k∉ps.map (·.1)):zfh (.int .i64 k) ((enL ps).map cm) 0=some none:=by
 rw [zoC]
 cases hf:ps.findIdx? (fun p=>decide (p.1=k)) with
 | none=>rfl
 |
  some j =>
  obtain ⟨h1,h2,_⟩:=List.findIdx?_eq_some_iff_getElem.1 hf
  exact absurd (List.mem_map.2 ⟨_,List.getElem_mem h1,of_decide_eq_true h2⟩) h
theorem zt7 {ps:List (Int × Int)} (hb:(ps.map (·.2)).Nodup) {p p':Int × Int} (hp:p∈ps) (hp':p'∈ps) (h:p.2=p'.2):p=p':=by
 induction ps with
 | nil=>cases hp
 |
  cons x ps ih =>
  rw [List.map_cons,List.nodup_cons] at hb
  by_cases h1:p∈ps
  ·
   by_cases h2:p'∈ps
   · exact ih hb.2 h1 h2
   ·
    have e:p'=x:=by simpa [h2] using hp'
    subst e
    exact absurd (show p'.2∈ps.map (fun x=>x.2) from List.mem_map.2 ⟨p,h1,h⟩) hb.1
  ·
   have e:p=x:=by simpa [h1] using hp
   by_cases h2:p'∈ps
   ·
    subst e
    exact absurd (show p.2∈ps.map (fun x=>x.2) from List.mem_map.2 ⟨p',h2,h.symm⟩) hb.1
   ·
    have e':p'=x:=by simpa [h2] using hp'
    rw [e,e']
theorem zsk {P:Program} {d:Option Nat} {rst:Rest} {drop:List Nat} {Q:QT} {K:Kn} {H:AH} {nx r rm qm:Nat} {c since st:Int} {ps sel:List (Int × Int)}
  (hr:H.get r 0=some (.row 1 ([.mp rm qm]::[.int .i64 since]::[.int .i64 st]::sel.map fun p=>[.int .i64 p.2]) 0)) (hm:H.get rm qm=some (.row 3 ((setM c ps).map cm) 0))
  (h1:since≤st) (h2:∀ p∈ps,p.2 < since) (hb:(ps.map (·.2)).Nodup) (hs:∀ p∈sel,p∈ps)
  (h4:(∀ p∈ps,p∈sel)→zaO P rst drop Q (setO K d (.tup [.bool false])) H nx)
  (h5:∀ p∈ps,p∉sel→zaO P rst drop Q (setO K d (.tup [.bool true, .int .i64 p.1, .bool true])) (H.set r 0 (.row 1 ([.mp rm qm]::[.int .i64 since]::[.int .i64 c]::(sel++[p]).map fun p=>[.int .i64 p.2]) 0)) nx) :
  zx8 P (.it r) d rst drop Q K H nx:=by
 have hin:∀ p∈ps,zpd (.int .i64 p.2) (sel.map fun p=>[.int .i64 p.2])=decide (p∈sel):=by
  intro p hp
  unfold zpd
  rw [Bool.eq_iff_iff,List.any_eq_true,decide_eq_true_eq]
  constructor
  ·
   rintro ⟨s,hs1,hs2⟩
   obtain ⟨p',hp',rfl⟩:=List.mem_map.1 hs1
   simp only [decide_eq_true_eq] at hs2
   have:p'=p:=by
    exact zt7 hb (hs p' hp') hp hs2
   rw [← this];exact hp'
  ·
   intro h
   exact ⟨_,List.mem_map.2 ⟨p,h,rfl⟩,by simp⟩
 have hleft:zqm (sel.map fun p=>[.int .i64 p.2]) ((enL ps).map cm)=(enL (ps.filter fun p => !decide (p∈sel))).map cm:=by
  unfold zqm enL
  simp only [List.map_map]
  rw [List.filter_map]
  congr 1
  refine List.filter_congr fun p hp=>?_
  simp only [Function.comp,cm,List.getD_cons_succ,List.getD_cons_zero]
  rw [hin p hp]
 unfold zx8 zja
 simp only
 rw [hr]
 simp only
 rw [hm,zn]
 simp only
 refine ⟨⟨trivial,trivial,trivial,trivial,h1,fun e he=>?_,fun s hs'=>?_⟩,fun hn=>h4 fun p hp=>?_,fun e he=>?_⟩
 ·
  obtain ⟨x,hx,rfl⟩:=List.mem_map.1 he
  obtain ⟨p,hp,rfl⟩:=List.mem_map.1 hx
  exact ⟨p.2,rfl,h2 p hp⟩
 ·
  obtain ⟨p,hp,rfl⟩:=List.mem_map.1 hs'
  exact ⟨p.2,rfl⟩
 ·
  rw [hleft] at hn
  have hf:ps.filter (fun p => !decide (p∈sel))=[]:=by simpa [enL] using hn
  have:=List.filter_eq_nil_iff.1 hf p hp
  simpa using this
 ·
  rw [hleft] at he
  obtain ⟨x,hx,rfl⟩:=List.mem_map.1 he
  obtain ⟨p,hp,rfl⟩:=List.mem_map.1 hx
  rw [List.mem_filter] at hp
  have:=h5 p hp.1 (by simpa using hp.2)
  simpa [cm,zwS] using this
theorem zsr {b:Int}:∀ {ps:List (Int × Int)} {p:Int × Int},p∈ps→p.2=b→(ps.map (·.2)).Nodup→zqC b ((enL ps).map cm)=some (.int .i64 p.1, .bool true)
 | [],_,h,_,_=>by cases h
 |
  x::ps,p,h,hb,hn=>by
  rw [List.map_cons,List.nodup_cons] at hn
  show zqC b (cm (.en x.1 x.2)::(enL ps).map cm)=_
  simp only [cm,zqC]
  by_cases hx:x.2=b
  ·
   rw [if_pos hx]
   by_cases h2:p∈ps
   · exact absurd (show x.2∈ps.map (fun x=>x.2) from List.mem_map.2 ⟨p,h2,hb.trans hx.symm⟩) hn.1
   ·
    have e:p=x:=by simpa [h2] using h
    rw [e]
  ·
   rw [if_neg hx]
   refine zsr ?_ hb hn.2
   rcases List.mem_cons.1 h with rfl | h
   · exact absurd hb hx
   · exact h
theorem zsu {H:AH} {nx r rm qm:Nat} {c since:Int} {ps sel:List (Int × Int)} {p:Int × Int} (hr:H.get r 0=some (.row 1 ([.mp rm qm]::[.int .i64 since]::[.int .i64 c]::(sel++[p]).map fun p=>[.int .i64 p.2]) 0))
  (hm:H.get rm qm=some (.row 3 ((setM c ps).map cm) 0)) (hb:(ps.map (·.2)).Nodup) (hp:p∈ps):xopR .ment [.it r] H nx=⟨True,True, .tup [.int .i64 p.1, .bool true],H,nx⟩:=by
 show zop (.it r) H nx=_
 unfold zop
 simp only
 rw [hr]
 simp only [List.map_append,List.map_cons,List.map_nil,List.getLast?_append,List.getLast?_singleton,Option.some_or]
 rw [hm,zn]
 simp only [zsr hp rfl hb]
 simp
theorem evM:type_of% @zoP∧type_of% @zlK:=⟨@zoP,@zlK⟩
theorem zpN {r q sz g:Nat} {c:Int} {u u':AV} {es:List (List AV)} {H:AH} {nx:Nat}:zy0 r q (some (.row sz ([.int .i64 c,u,u']::es) g)) H nx=⟨sz=3∧g=0,True, .it nx,H.set nx 0 (.row 1 [[.mp r q],[.int .i64 c],[.int .i64 c]] 0),nx+1⟩:=rfl
theorem zps {str:Option IntKind} {r q sz g:Nat} {k:AV} {hd:List AV} {es:List (List AV)} {H:AH} {nx:Nat}:zzl str r q k (some (.row sz (hd::es) g)) H nx=mdTo str r q k sz g hd es (zfh k es 0) H nx:=rfl
abbrev Fds:=List (Nat × Nat × Nat)
def fat:Fds→Nat→Nat→Option Nat
 | [],_,_=>none
 | (F,q,N)::t,r',q'=>bif Nat.beq F r'&&Nat.beq q q' then some N else fat t r' q'
def fsig (t:Tab) (fs:Fds):Nat→Nat→Option (Nat × Nat × Nat):=fun r' q'=>match fat fs r' q' with
 | some N=>some (N,0,0)
 | none=>t.sig r' q'
def fOk (n:Nat) (t:Tab):Fds→Bool
 | []=>true
 | (F,_,N)::u=>Nat.blt F n && !(memN (t.map (·.2.1)) N) && !(memN (u.map (·.2.2)) N)&&fOk n t u
def noQ:Nat→Nat→Prop:=fun _ _=>False
theorem znD {n:Nat} {t:Tab}:∀ {fs:Fds},fOk n t fs=true→∀ {r' q' N},fat fs r' q'=some N→r' < n∧memN (t.map (·.2.1)) N=false∧N∈fs.map (·.2.2)
 | [],_,r',q',N,h=>by cases h
 |
  (F,q,M)::u,hk,r',q',N,h=>by
  simp only [fOk,Bool.and_eq_true,Bool.not_eq_true'] at hk
  obtain ⟨⟨⟨h1,h2⟩,h3⟩,h4⟩:=hk
  simp only [fat] at h
  cases hb:Nat.beq F r'&&Nat.beq q q' with
  |
   true =>
   rw [hb] at h
   cases h
   rw [Bool.and_eq_true] at hb
   have:=zj hb.1
   subst this
   exact ⟨by simpa [Nat.blt_eq] using h1,h2,by simp⟩
  |
   false =>
   rw [hb] at h
   obtain ⟨a1,a2,a3⟩:=znD h4 h
   exact ⟨a1,a2,by simp only [List.map_cons,List.mem_cons];exact .inr a3⟩
theorem zuZ {n:Nat} {t:Tab}:∀ {fs:Fds},fOk n t fs=true→∀ {r q r' q' N},fat fs r q=some N→fat fs r' q'=some N→r=r'∧q=q'
 | [],_,r,q,r',q',N,h,_=>by cases h
 |
  (F,p,M)::u,hk,r,q,r',q',N,h,h'=>by
  have hk':=hk
  simp only [fOk,Bool.and_eq_true,Bool.not_eq_true'] at hk'
  obtain ⟨⟨⟨h1,h2⟩,h3⟩,h4⟩:=hk'
  simp only [fat] at h h'
  cases hb:Nat.beq F r&&Nat.beq p q with
  |
   true =>
   cases hc:Nat.beq F r'&&Nat.beq p q' with
   |
    true =>
    rw [Bool.and_eq_true] at hb hc
    exact ⟨(zj hb.1).symm.trans (zj hc.1),(zj hb.2).symm.trans (zj hc.2)⟩
   |
    false =>
    rw [hb] at h
    rw [hc] at h'
    cases h
    exact absurd ((zad _ _).2 (znD h4 h').2.2) (by rw [h3];exact Bool.false_ne_true)
  |
   false =>
   cases hc:Nat.beq F r'&&Nat.beq p q' with
   |
    true =>
    rw [hb] at h
    rw [hc] at h'
    cases h'
    exact absurd ((zad _ _).2 (znD h4 h).2.2) (by rw [h3];exact Bool.false_ne_true)
   |
    false =>
    rw [hb] at h
    rw [hc] at h'
    exact zuZ h4 h h'
def zqI (H HH:AH) (σ:Nat→Nat→Option (Nat × Nat × Nat)) (n:Nat):AH→Prop
 | []=>True
 | (r', .row sz els2 g2)::u=>Nat.blt r' n=true∧(match σ r' 0 with
   | some (r,q,d)=>∃ els,H.get r q=some (.row sz els (g2+d))∧RowV H HH σ noQ els els2
   | none=>els2=[]∧g2=0)∧zqI H HH σ n u
 | (r', .fam sz ins)::u=>Nat.blt r' n=true∧(∀ (i:Nat) (p:List (List AV) × Nat),ins[i]? = some p→match σ r' (i+1) with
   | some (r,q,d)=>∃ els,H.get r q=some (.row sz els (p.2+d))∧RowV H HH σ noQ els p.1
   | none=>p=([],0))∧zqI H HH σ n u
def zso (H HH:AH) (σ:Nat→Nat→Option (Nat × Nat × Nat)):Kn→Kn→Prop
 | [],_=>True
 | (j,v)::u,K=>Vw H HH σ noQ true (K.get j) v∧zso H HH σ u K
theorem znt {H HH:AH} {σ:Nat→Nat→Option (Nat × Nat × Nat)} {K:Kn}:∀ {K2:Kn},zso H HH σ K2 K→∀ i,Vw H HH σ noQ true (K.get i) (K2.get i)
 | [],_,i=>.undef _ _
 |
  (j,v)::u,h,i=>by
  simp only [Kn.get]
  cases hb:Nat.beq j i with
  | true=>rw [← zj hb];exact h.1
  | false=>exact znt h.2 i
theorem zpg {H HH:AH} {σ:Nat→Nat→Option (Nat × Nat × Nat)} {n:Nat}:∀ {H2:AH},zqI H HH σ n H2→∀ r o,H2.look r=some o→r < n
 | [],_,r,o,h=>by cases h
 |
  (r',ob)::u,h,r,o,hl=>by
  have hh:Nat.blt r' n=true∧zqI H HH σ n u:=by cases ob<;>exact ⟨h.1,h.2.2⟩
  simp only [AH.look] at hl
  cases hb:Nat.beq r' r with
  | true=>rw [← zj hb];simpa [Nat.blt_eq] using hh.1
  | false=>rw [hb] at hl;exact zpg hh.2 r o hl
theorem zoK {H HH:AH} {σ:Nat→Nat→Option (Nat × Nat × Nat)} {n:Nat}:∀ {H2:AH},zqI H HH σ n H2→∀ r' q' sz els2 g2,H2.get r' q'=some (.row sz els2 g2) →
  (∃ r q d els,σ r' q'=some (r,q,d)∧H.get r q=some (.row sz els (g2+d))∧RowV H HH σ noQ els els2)∨(σ r' q'=none∧els2=[]∧g2=0)
 | [],_,r',q',sz,els2,g2,h=>by cases h
 |
  (r0,ob)::u,h,r',q',sz,els2,g2,hg=>by
  have hh:zqI H HH σ n u:=by cases ob<;>exact h.2.2
  unfold AH.get at hg
  simp only [AH.look] at hg
  cases hb:Nat.beq r0 r' with
  | false=>rw [hb] at hg;exact zoK hh r' q' sz els2 g2 hg
  |
   true =>
   rw [hb] at hg
   have:=zj hb
   subst this
   simp only [cond_true,Option.bind_some] at hg
   cases ob with
   |
    row sz0 els0 g0 =>
    cases q' with
    | succ q=>cases hg
    |
     zero =>
     simp only [AObj.part,Option.some.injEq,AObj.row.injEq] at hg
     obtain ⟨rfl,rfl,rfl⟩:=hg
     have h2:=h.2.1
     cases ht:σ r0 0 with
     | none=>rw [ht] at h2;exact .inr ⟨rfl,h2⟩
     |
      some p =>
      obtain ⟨r,q,d⟩:=p
      rw [ht] at h2
      obtain ⟨els,h3,h4⟩:=h2
      exact .inl ⟨r,q,d,els,rfl,h3,h4⟩
   |
    fam sz0 ins =>
    cases q' with
    | zero=>cases hg
    |
     succ i =>
     simp only [AObj.part] at hg
     obtain ⟨p,hp,he⟩:=Option.map_eq_some_iff.1 hg
     cases he
     have h2:=h.2.1 i p hp
     cases ht:σ r0 (i+1) with
     |
      none =>
      rw [ht] at h2
      simp only at h2
      rw [h2]
      exact .inr ⟨rfl,rfl,rfl⟩
     |
      some p' =>
      obtain ⟨r,q,d⟩:=p'
      rw [ht] at h2
      obtain ⟨els,h3,h4⟩:=h2
      exact .inl ⟨r,q,d,els,rfl,h3,h4⟩
theorem Ent.fold {K K2:Kn} {H H2:AH} {nx nx2:Nat} (t:Tab) (fs:Fds) (hok:t.ok nx2 []=true) (hf:fOk nx2 t fs=true) (hr:zqI H H2 (fsig t fs) nx2 H2) (hK:zso H H2 (fsig t fs) K2 K):Ent 0 K H nx K2 H2 nx2:=by
 have tab:∀ {r' q' x},t.sig r' q'=some x→∃ r d,t.at r'=some (r,d)∧x=(r,q',d):=by
  intro r' q' x h
  unfold Tab.sig at h
  cases e1:t.at r' with
  | none=>rw [e1] at h;cases h
  | some p1=>rw [e1] at h;cases h;exact ⟨p1.1,p1.2,rfl,rfl⟩
 refine Ent.view (fsig t fs) noQ ⟨Nat.zero_le _,fun r q h=>absurd h (Nat.not_lt_zero _),?_,fun _ _ _ _ _ _ h=>h,?_,zpg hr,zoK hr⟩ (znt hK)
 ·
  intro r1 q1 r2 q2 r q d1 d2 h1 h2
  unfold fsig at h1 h2
  cases e1:fat fs r1 q1 with
  |
   some N =>
   rw [e1] at h1
   cases h1
   cases e2:fat fs r2 q2 with
   | some M=>rw [e2] at h2;cases h2;exact zuZ hf e1 e2
   |
    none =>
    rw [e2] at h2
    obtain ⟨r0,d0,h3,h4⟩:=tab h2
    cases h4
    have:=(Tab.ok_at hok h3).2.2
    exact absurd ((zad _ _).2 this) (by rw [(znD hf e1).2.1];exact Bool.false_ne_true)
  |
   none =>
   rw [e1] at h1
   obtain ⟨r0,d0,h3,h4⟩:=tab h1
   cases h4
   cases e2:fat fs r2 q2 with
   |
    some M =>
    rw [e2] at h2
    cases h2
    have:=(Tab.ok_at hok h3).2.2
    exact absurd ((zad _ _).2 this) (by rw [(znD hf e2).2.1];exact Bool.false_ne_true)
   |
    none =>
    rw [e2] at h2
    obtain ⟨r0',d0',h5,h6⟩:=tab h2
    cases h6
    exact ⟨Tab.ok_inj hok h3 h5,rfl⟩
 ·
  intro r' q' x h
  unfold fsig at h
  cases e1:fat fs r' q' with
  | some N=>exact (znD hf e1).1
  |
   none =>
   rw [e1] at h
   obtain ⟨r0,d0,h3,h4⟩:=tab h
   exact (Tab.ok_at hok h3).1
theorem zjA {H HH:AH} {σ:Nat→Nat→Option (Nat × Nat × Nat)} {D:Nat→Nat→Prop} {r q r' q':Nat} {tl:List (List AV)} (hs:σ r' q'=some (r,q,0)) (h:zq tl):RowV H HH σ D ([.mp r q]::tl) ([.mp r' q']::tl):=by
 obtain ⟨_,h2⟩:=RowV.of_flat (H:=H) (HH:=HH) (σ:=σ) (D:=D) h
 refine ⟨by simp,fun i c2 hi=>?_⟩
 cases i with
 |
  zero =>
  cases hi
  refine ⟨_,rfl,rfl,fun j a b h1 h2=>?_⟩
  cases j with
  | zero=>cases h1;cases h2;exact .mp _ _ _ _ hs
  | succ j=>cases h1
 | succ i=>exact h2 i c2 hi
def AV.ref0:AV→Bool
 | .undef | .int .. | .bool _ | .str _ | .nilp | .nilfn | .nilsl | .cut | .nilmp | .own .. | .ptr .. | .mp .. | .it _=>true
 | _=>false
def AV.refs:AV→Bool
 | .agg l=>l.all AV.ref0
 | .tup l=>l.all AV.ref0
 | a=>a.ref0
theorem zrL {w:World} {M M':Nat→Prop} {ι:Inj} {v:Value} {a:AV} (ha:a.ref0=true) (h:VR w M ι v a):VR w M' ι v a:=by
 cases h<;>first | (cases ha;done) | (constructor<;>assumption)
theorem ref_vr {w:World} {M M':Nat→Prop} {ι:Inj} {v:Value} {a:AV} (ha:a.refs=true) (h:VR w M ι v a):VR w M' ι v a:=by
 cases h with
 | agg _ cs asv hs h1 hv=>exact .agg _ _ _ hs h1 (fun i v a h2 h3=>zrL (List.all_eq_true.1 ha a (List.mem_of_getElem? h3)) (hv i v a h2 h3))
 | tup _ cs asv hs hv=>exact .tup _ _ _ hs (fun i v a h2 h3=>zrL (List.all_eq_true.1 ha a (List.mem_of_getElem? h3)) (hv i v a h2 h3))
 | undef=>exact .undef _ _
 | int _ _ _ h=>exact .int _ _ _ h
 | bool=>exact .bool _ _
 | str _ _ h=>exact .str _ _ h
 | nilp=>exact .nilp _
 | nilfn=>exact .nilfn _
 | nilsl=>exact .nilsl _
 | cut=>exact .cut _ _
 | nilmp=>exact .nilmp _
 | own _ r q g off n a c l h hm hn hc hx=>exact .own _ r q g off n a c l h hm hn hc hx
 | ptr _ r q g i f l h hm=>exact .ptr _ r q g i f l h hm
 | mp _ r q l h hm=>exact .mp _ r q l h hm
 | it _ r l h hm=>exact .it _ r l h hm
 | _=>cases ha
def zor (els:List (List AV)):Prop:=∀ c∈els,c.all AV.ref0=true
def AObj.refs:AObj→Prop
 | .row _ els _=>zor els
 | .fam _ ins=>∀ p∈ins,zor p.1
def AH.refs:AH→Prop
 | []=>True
 | (_,o)::t=>o.refs∧AH.refs t
theorem zpM:∀ {H:AH},H.refs→∀ {r:Nat} {o:AObj},H.look r=some o→o.refs
 | [],_,r,o,h=>by cases h
 |
  (j,o')::t,h,r,o,hl=>by
  simp only [AH.look] at hl
  cases hb:Nat.beq j r with
  | true=>rw [hb] at hl;cases hl;exact h.1
  | false=>rw [hb] at hl;exact zpM h.2 hl
theorem zw6 {H:AH} (h:H.refs) {r q sz g:Nat} {els:List (List AV)} (hg:H.get r q=some (.row sz els g)):zor els:=by
 unfold AH.get at hg
 cases hl:H.look r with
 | none=>rw [hl] at hg;cases hg
 |
  some o =>
  rw [hl] at hg
  have ho:=zpM h hl
  cases o with
  |
   row sz0 els0 g0 =>
   cases q with
   | succ q=>cases hg
   | zero=>cases hg;exact ho
  |
   fam sz0 ins =>
   cases q with
   | zero=>cases hg
   |
    succ i =>
    obtain ⟨p,hp,he⟩:=Option.map_eq_some_iff.1 hg
    cases he
    exact ho p (List.mem_of_getElem? hp)
theorem zx6 {α:Type} {f:α→List AV} {l:List α} (h:∀ a,(f a).all AV.ref0=true):zor (l.map f):=by
 intro c hc
 obtain ⟨a,_,rfl⟩:=List.mem_map.1 hc
 exact h a
variable {P:Program} {H:AH} {nx:Nat} {D:Nat→Nat→Prop}
theorem zsX {f:FuncId} {asv bs:List AV} {Post k:AV→AH→Nat→Prop} (h:zN P f bs [] 0 Post) (ha:Lend H D asv bs) (hq:∀ v H' nx',Post v H' nx'→v.refs=true∧H'.refs)
  (hk:∀ v H' nx',Post v H' nx'→k (v.ren (Tab.to [] nx)) (H.over [] nx H') (nx+nx')):zN P f asv H nx k:=by
 intro w L ι vs rel hv
 refine (h w (zhw L ι H D) noI vs (.empty (znm rel)) (ha.vrs rel hv)).mono fun e w' ⟨v,ι',H',nx',a,h3,h4,_,h6,h7⟩=>?_
 obtain ⟨q1,q2⟩:=hq _ _ _ h7
 have hsz:∀ b,L b∨othr ι H [] nx b→b < w.heap.size:=by
  rintro b (hb | hb)
  · exact rel.Lsz b hb
  ·
   obtain ⟨r,q,sz,els,g,l,_,h1,h2,h3,h5⟩:=hb
   exact rel.live_lt ⟨r,q,sz,els,g,l,h1,h2,h3,h5⟩
 have st:Step w (fun b=>L b∨othr ι H [] nx b) noI [] 0 w' ι' H' nx':=by
  refine ⟨h4.ext,h4.inj,⟨fun r q sz els g hg=>?_,h4.rel.apart,fun b hb hL=>?_,h4.rel.idx,h4.rel.dom,h4.rel.gen,fun b hb=>Nat.lt_of_lt_of_le (hsz b hb) h4.ext.size⟩,h4.lv⟩
  ·
   obtain ⟨l,h1,ok⟩:=h4.rel.row _ _ _ _ _ hg
   refine ⟨l,h1,ok.view (fun _=>rfl) rfl (fun i c hi=>⟨c,hi,rfl,fun j a a' hj hj' v hv=>?_⟩)⟩
   rw [hj] at hj'
   cases hj'
   exact zrL (List.all_eq_true.1 (zw6 q2 hg c (List.mem_of_getElem? hi)) a (List.mem_of_getElem? hj)) hv
  ·
   rcases h4.lv b hb with h | h
   · exact ziD b h
   ·
    have:=hsz b hL
    omega
 obtain ⟨h8,h9⟩:=Step.over (tb:=[]) rfl rfl rel (fun r q g l _ hn=>absurd rfl hn) (fun b hb=>(ziD b hb).elim) st
 exact ⟨v,_,_,_,_,h3,h8,Nat.le_add_right _ _,h9 v a (ref_vr q1 h6),hk _ _ _ h7⟩
end Go.Ab
namespace Go.Proofs
open Go.RowKit Go.Maps Go.Sort Go.Shelf
def zqX:Go.Shelf.Ren:=⟨fun | 5=>40 | 8=>38 | 7=>62 | 19=>60 | 20=>61 | 10=>77 | 11=>78 | 12=>79 | 13=>80 | 14=>81 | 15=>82 | 16=>83 | 17=>84 | 18=>85 | 30=>93 | 31=>72 | 32=>73 | 33=>94 | 34=>95 | 35=>96 | 40=>99 | n=>n,fun | 23=>32 | 25=>3 | 3=>3 | 32=>78 | 22=>32 | 0=>0 | 44=>22 | 46=>100 | 4=>4 | 36=>91 | 35=>90 | 41=>96 | 5=>5 | 9=>9 | 53=>108 | 57=>112 | 63=>124 | 64=>125 | n=>n,fun | n=>n⟩
theorem zux:Go.Proofs.SlLaysM.n5 Try.prog zqX:={
 mixed:=by kernel_rfl,
 f5:=⟨Try.f40.name,by decide,Try.func40.trans (congrArg some (by kernel_rfl))⟩,
 f7:=⟨Try.f62.name,by decide,Try.func62.trans (congrArg some (by kernel_rfl))⟩,
 f8:=Try.func38.trans (congrArg some (by kernel_rfl)),
 f10:=⟨Try.f77.name,by decide,Try.func77.trans (congrArg some (by kernel_rfl))⟩,
 f11:=⟨Try.f78.name,by decide,Try.func78.trans (congrArg some (by kernel_rfl))⟩,
 f12:=⟨Try.f79.name,by decide,Try.func79.trans (congrArg some (by kernel_rfl))⟩,
 f13:=⟨Try.f80.name,by decide,Try.func80.trans (congrArg some (by kernel_rfl))⟩,
 f14:=⟨Try.f81.name,by decide,Try.func81.trans (congrArg some (by kernel_rfl))⟩,
 f15:=⟨Try.f82.name,by decide,Try.func82.trans (congrArg some (by kernel_rfl))⟩,
 f16:=⟨Try.f83.name,by decide,Try.func83.trans (congrArg some (by kernel_rfl))⟩,
 f17:=⟨Try.f84.name,by decide,Try.func84.trans (congrArg some (by kernel_rfl))⟩,
 f18:=⟨Try.f85.name,by decide,Try.func85.trans (congrArg some (by kernel_rfl))⟩,
 f19:=Try.func60.trans (congrArg some (by kernel_rfl)),
 f20:=Try.func61.trans (congrArg some (by kernel_rfl)),
 f30:=⟨Try.f93.name,by decide,Try.func93.trans (congrArg some (by kernel_rfl))⟩,
 f31:=Try.func72.trans (congrArg some (by kernel_rfl)),
 f32:=Try.func73.trans (congrArg some (by kernel_rfl)),
 f33:=⟨Try.f94.name,by decide,Try.func94.trans (congrArg some (by kernel_rfl))⟩,
 f34:=⟨Try.f95.name,by decide,Try.func95.trans (congrArg some (by kernel_rfl))⟩,
 f35:=⟨Try.f96.name,by decide,Try.func96.trans (congrArg some (by kernel_rfl))⟩,
 f40:=⟨Try.f99.name,by decide,Try.func99.trans (congrArg some (by kernel_rfl))⟩,
 t0:=Try.underlying0,
 a0:=Try.isAgg0,
 z0:=Try.sizeOf0,
 v0:=Try.zeroValue0,
 t3:=Try.underlying3,
 a3:=Try.isAgg3,
 z3:=Try.sizeOf3,
 v3:=Try.zeroValue3,
 t4:=Try.underlying4,
 a4:=Try.isAgg4,
 z4:=Try.sizeOf4,
 v4:=Try.zeroValue4,
 t5:=Try.underlying5,
 a5:=Try.isAgg5,
 z5:=Try.sizeOf5,
 v5:=Try.zeroValue5,
 t9:=Try.underlying9,
 a9:=Try.isAgg9,
 z9:=Try.sizeOf9,
 v9:=Try.zeroValue9,
 t22:=Try.underlying32,
 a22:=Try.isAgg32,
 z22:=Try.sizeOf32,
 v22:=Try.zeroValue32,
 t23:=Try.underlying32,
 a23:=Try.isAgg32,
 z23:=Try.sizeOf32,
 v23:=Try.zeroValue32,
 t25:=Try.underlying3,
 a25:=Try.isAgg3,
 z25:=Try.sizeOf3,
 v25:=Try.zeroValue3,
 t32:=Try.underlying78,
 a32:=Try.isAgg78,
 z32:=Try.sizeOf78,
 v32:=Try.zeroValue78,
 t35:=Try.underlying90,
 a35:=Try.isAgg90,
 z35:=Try.sizeOf90,
 v35:=Try.zeroValue90,
 t36:=Try.underlying91,
 a36:=Try.isAgg91,
 z36:=Try.sizeOf91,
 v36:=Try.zeroValue91,
 t41:=Try.underlying96,
 a41:=Try.isAgg96,
 z41:=Try.sizeOf96,
 v41:=Try.zeroValue96,
 t44:=Try.underlying22,
 a44:=Try.isAgg22,
 z44:=Try.sizeOf22,
 v44:=Try.zeroValue22,
 t46:=Try.underlying100,
 a46:=Try.isAgg100,
 z46:=Try.sizeOf100,
 v46:=Try.zeroValue100,
 t53:=Try.underlying108,
 a53:=Try.isAgg108,
 z53:=Try.sizeOf108,
 v53:=Try.zeroValue108,
 t57:=Try.underlying112,
 a57:=Try.isAgg112,
 z57:=Try.sizeOf112,
 v57:=Try.zeroValue112,
 t63:=Try.underlying124,
 a63:=Try.isAgg124,
 z63:=Try.sizeOf124,
 v63:=Try.zeroValue124,
 t64:=Try.underlying125,
 a64:=Try.isAgg125,
 z64:=Try.sizeOf125,
 v64:=Try.zeroValue125 }
end Go.Proofs
