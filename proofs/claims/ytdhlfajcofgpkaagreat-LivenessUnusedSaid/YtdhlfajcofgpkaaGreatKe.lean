/-
  Part 5 of the proof: how the calls of this program run, over values instead of memory, and what each function computes.
-/
import Derived.Test.YtdhlfajcofgpkaaGreatProg
import Derived.Shelf.SlIterI.Nil
import Derived.Shelf.SortM.Plain
import Derived.Shelf.SortM.SortNone
import Derived.Test.YtdhlfajcofgpkaaGreatKd
set_option maxRecDepth 100000
set_option linter.unusedVariables false
set_option linter.unusedSimpArgs false
set_option linter.unnecessarySimpa false
set_option linter.unusedSectionVars false
open Nat renaming beq→Wa,blt→Wb,testBit→We,ble→Wg,blt_eq→Wn,shiftLeft→Ww,lt_of_lt_of_le→Wy,add_zero→WJ
open List renaming mem_map→Wc,getD_eq_getElem?_getD→Wf,all_eq_true→Wh,replicate→Wi,range→Wj,mem_filter→Wk,map_cons→Wl,mem_of_getElem?→Wm,mem_range→Wo,mem_cons_of_mem→Wq,getElem?_eq_getElem→Wr,getElem?_eq_none→Wt,getElem?_replicate→Wv,mem_filterMap→Wz,mem_cons→WA,map_map→WC,getElem?_map→WD,length_map→WE,filter_congr→WG,filter_eq_nil_iff→WH,mem_iff_getElem→WK,any_eq_true→WL,getElem?_eq_some_iff→WM,findIdx?_eq_some_iff_getElem→WN
open Bool renaming and_eq_true→Wd,or_eq_true→Wu,false_ne_true→Wx,or_eq_true_iff→WB,not_eq_true'→WF
open Option renaming map_eq_some_iff→Wp,bind_eq_some_iff→WO
open And renaming intro→Ws
open Option.some renaming injEq→WI
namespace Go.Ab
open Go.RowKit
section
variable {P:Program}
theorem zB9 {ops:Array Oper} {bs:List AOper} {Qc:Exit→Act→World→Prop} (hlen:bs.length=ops.size) (J:List Bool→Act→World→Prop)
  (hend:∀l a w,l.length=bs.length→J l a w→(∀i,i < bs.length→zbi (ops.toList.map zcW) l i=false)→Qc .normal a w)
  (hstep:∀l i a w,l.length=bs.length→i < bs.length→zbi (ops.toList.map zcW) l i=true→J l a w→∀o,ops[i]? = some o →
   if Region.wanted o (yielded ops a.tmps) then o.wp P a w (J (l.set i true)) Qc else J (l.set i true) (a.put o.dst undef) w) :
  ∀(fuel:Nat) (l:List Bool) (a:Act) (w:World),l.length=bs.length→zfB l≤fuel→J l a w→wpAny P .any ops Qc fuel l.toArray a w
 |
  0,l,a,w,hl,hc,hj=>by
  have hno:∀i,i < bs.length→zbi (ops.toList.map zcW) l i=false:=fun i hi=>by have:=zh8 (l:=l) (by omega) i (by omega);unfold zbi;rw[this];rfl
  refine⟨?_,hend l a w hl hj hno⟩;rw[List.eq_nil_iff_forall_not_mem];intro j hj;obtain⟨h1,h2⟩:=(zhG (by omega)).1 hj;rw[hno j (by omega)] at h2;cases h2
 |
  fuel+1,l,a,w,hl,hc,hj=>by
  refine⟨fun h0=>hend l a w hl hj fun i hi=>?_,fun i hi=>?_⟩
  ·
   cases hb:zbi (ops.toList.map zcW) l i with
   | false=>rfl
   |
    true =>
    have:i∈Region.ready .any ops l.toArray:=(zhG (by omega)).2 ⟨by omega,hb⟩;rw[h0] at this;simp at this
  ·
   obtain⟨h1,h2⟩:=(zhG (by omega)).1 hi;have ho:ops[i]? = some ops[i]:=Array.getElem?_eq_getElem h1;have hset:=zky (l:=l) (i:=i) (by omega) (zaQ.1 h2).1
   have next:∀a w,J (l.set i true) a w→wpAny P .any ops Qc fuel (l.toArray.setIfInBounds i true) a w:=fun a w hj=>by
    have:=zB9 hlen J hend hstep fuel (l.set i true) a w (by simpa using hl) (by omega) hj
    simpa using this
   have:=hstep l i a w hl (by omega) h2 hj ops[i] ho;unfold wpOp;rw[ho];simp only;split
   · rename_i hw;rw[if_pos hw] at this;exact .inl (Oper.wp_mono (fun a w h=>next a w h) this)
   · rename_i hw;rw[if_neg hw] at this;exact next _ _ this
def valX (P:Program) (call:zbA) (o:AOper) (ρ:Nat→AV) (H:AH) (nx:Nat):Option (AV × AH × Nat) :=
 match o.guard with
 | none=>zqx P call o.op ρ H nx
 |
  some (t,want)=>match grd want (ρ t) with
  | some true=>zqx P call o.op ρ H nx
  | some false=>some (.tup [],H,nx)
  | none=>none
theorem zCE {call:zbA} (hs:call.Sound P) {o:AOper} {ρ ρ2:Nat→AV} (hl:∀t∈o.looks,ρ2 t=ρ t) {H:AH} {nx:Nat} {r:AV × AH × Nat} (h:valX P call o ρ H nx=some r) {k:(Nat→AV)→AH→Nat→Prop} (hk:k (upd ρ2 o.dst r.1) r.2.1 r.2.2):ExF P false o ρ2 H nx k:=by
 have body:zqx P call o.op ρ H nx=some r→zb1 P false o.op ρ2 H nx (fun v H' nx'=>k (upd ρ2 o.dst v) H' nx'):=fun h=>by rw[ziO (P:=P) (fx:=false) (ρ':=ρ) fun t ht=>hl t (zkM ht)];exact zsI hs h hk
 unfold valX at h;unfold ExF
 cases hg:o.guard with
 | none=>rw[hg] at h;exact body h
 |
  some p =>
  obtain⟨t,want⟩:=p;rw[hg] at h;simp only at h ⊢;rw[hl t (ziI hg)]
  cases hw:grd want (ρ t) with
  | none=>rw[hw] at h;cases h
  |
   some b =>
   rw[hw] at h
   cases b with
   | true=>exact⟨fun _=>body h,fun hf=>(by cases hf)⟩
   | false=>cases h;exact⟨fun hf=>(by cases hf),fun _=>hk⟩
def seqV (P:Program) (call:zbA):List AOper→Kn→AH→Nat→Option (List (Nat × AV) × List (Nat × Nat) × Nat)
 | [],_,_,nx=>some ([],[],nx)
 |
  o::os,K,H,nx=>match valX P call o K.get H nx with
  |
   some (v,H',nx')=>match seqV P call os (setO K o.dst v) H' nx' with
   |
    some (vs,rs,top)=>some ((match o.dst with
    | some d=>(d,v)::vs
    | none=>vs),(nx,nx' - nx)::rs,top)
   | none=>none
  | none=>none
def zGq:List (List Nat)→List (List Nat)→List (List Nat)
 | acc,[]=>acc
 | acc,ds::r=>zGq (acc++[(ds++ds.flatMap fun d=>acc.getD d []).eraseDups]) r
def renV (ρ:Nat→Nat):Nat→AV→AV
 | 0,v=>v
 |
  d+1,v=>match v with
  | .ptr r q g i f=>.ptr (ρ r) q g i f
  | .own r q g off n=>.own (ρ r) q g off n
  | .fn f caps=>.fn f (caps.map (renV ρ d))
  | .agg l=>.agg (l.map (renV ρ d))
  | .tup l=>.tup (l.map (renV ρ d))
  | .mp r q=>.mp (ρ r) q
  | .it r=>.it (ρ r)
  | v=>v
def renH (ρ:Nat→Nat):AH→AH
 | []=>[]
 |
  (r,o)::t=>(ρ r,match o with
  | .row sz els g=>.row sz (els.map fun c=>c.map (renV ρ 30)) g
  | .fam sz ins=>.fam sz ins)::renH ρ t
abbrev STab:=List (List Nat × AH)
def zmL:STab→List Nat→AH
 | [],_=>[]
 | (S,H)::t,S'=>bif beqL S S' then H else zmL t S'
def zvk (ops:List AOper) (A:List (List Nat)) (i:Nat):List Nat :=
 (Wj ops.length).filterMap fun j=>bif Wa j i||memN (A.getD j []) i then (ops.getD j default).dst else none
def zw7 (ops:List AOper) (A:List (List Nat)) (K0 Kf:Kn) (i:Nat):Kn:=zap Kf ((zvk ops A i).map fun t=>(t,K0.get t))
def zGn (P:Program) (call:zbA) (ops:List AOper) (Ls:List Nat) (A:List (List Nat)) (K0 Kf:Kn) (rs:List (Nat × Nat)) (top:Nat) (S:List Nat) (H:AH):List Nat→STab→List (List Nat)→Option (STab × List (List Nat))
 | [],tab,todo=>some (tab,todo)
 |
  i::r,tab,todo =>
  bif zdL Ls A i S && !memS (tab.map (·.1)) (zkS Ls i S) then
   match valX P call (ops.getD i default) (zw7 ops A K0 Kf i).get H top with
   | some (_,H',_)=>zGn P call ops Ls A K0 Kf rs top S H r (tab++[(zkS Ls i S,renH (fun x=>bif Wb x top then x else x - top+(rs.getD i (0,0)).1) H')]) (todo++[zkS Ls i S])
   | none=>none
  else zGn P call ops Ls A K0 Kf rs top S H r tab todo
def growT (P:Program) (call:zbA) (ops:List AOper) (Ls:List Nat) (A:List (List Nat)) (K0 Kf:Kn) (rs:List (Nat × Nat)) (top:Nat):Nat→List (List Nat)→STab→Option STab
 | 0,_,tab=>some tab
 | _+1,[],tab=>some tab
 |
  n+1,S::todo,tab=>match zGn P call ops Ls A K0 Kf rs top S (zmL tab S) Ls tab todo with
  | some (tab',todo')=>growT P call ops Ls A K0 Kf rs top n todo' tab'
  | none=>none
def idS:Sg:=fun r=>some r
def dstB (σ:Sg) (Kf:Kn):Option Nat→AV→Bool
 | none,_=>true
 | some d,v=>vwB σ 30 v (Kf.get d)
def chkE (P:Program) (call:zbA) (ops:List AOper) (A:List (List Nat)) (K0 Kf:Kn) (rs:List (Nat × Nat)) (nx top:Nat) (tab:STab) (e:Nat × List Nat × List Nat):Bool :=
 match valX P call (ops.getD e.1 default) (zw7 ops A K0 Kf e.1).get (zmL tab e.2.1) top with
 |
  some (v,H',_) =>
  bif (ops.getD e.1 default).fixed then dstB idS Kf (ops.getD e.1 default).dst v
  else Wg nx (rs.getD e.1 (0,0)).1&&(Wg ((rs.getD e.1 (0,0)).1+(rs.getD e.1 (0,0)).2) top &&
   (zDd (sgR (rs.getD e.1 (0,0)).1 (rs.getD e.1 (0,0)).2 top top) top H' (zmL tab e.2.2) &&
   (dstB (sgR (rs.getD e.1 (0,0)).1 (rs.getD e.1 (0,0)).2 top top) Kf (ops.getD e.1 default).dst v &&
   ((Kf.all fun p=>memN (zvk ops A e.1) p.1||okB (sgR (rs.getD e.1 (0,0)).1 (rs.getD e.1 (0,0)).2 top top) 30 p.2) &&
   K0.all fun p=>okB (sgR (rs.getD e.1 (0,0)).1 (rs.getD e.1 (0,0)).2 top top) 30 p.2))))
 | none=>false
def planX (ops:List AOper) (Ls:List Nat) (A:List (List Nat)) (St:List (List Nat)):Plan :=
 (Wj ops.length).flatMap fun i =>
  bif memN Ls i then (St.filter (zdL Ls A i)).map fun S=>(i,S,zkS Ls i S)
  else bif (ops.getD i default).sees then (St.filter (zdL Ls A i)).map fun S=>(i,S,S)
  else ((St.filter (zdL Ls A i)).take 1).map fun S=>(i,S,S)
structure DR where
 Kf:Kn
 H:AH
 top:Nat
def zFU (ops:List AOper) (A:List (List Nat)) (i t:Nat):Bool :=
 ((A.getD i []).any fun j=>match (ops.getD j default).dst with|some d=>Wa d t|none=>false) ||
 allB ops.length fun j=>match (ops.getD j default).dst with|some d => !Nat.beq d t||(Wa j i||memN (A.getD j []) i)|none=>true
def zp4 (o:AOper):AOper:={ o with op:=bif o.fixed && !o.sees then .mov (.c .undef) else .mknil 0,guard:=none }
def zA5 (ops:List AOper) (deps:List (List Nat)) (Ls:List Nat) (A:List (List Nat)) (St:List (List Nat)) (plan:Plan) (ks:List Nat):Bool :=
 zyr (ops.map zp4) deps Ls A St plan ks
def drawR (P:Program) (call:zbA) (ops:List AOper) (deps:List (List Nat)) (Ls:List Nat) (A:List (List Nat)) (vs:List (Nat × AV)) (rs:List (Nat × Nat)) (tab:STab) (K:Kn) (nx top:Nat):Option (Kn × AH × Nat) :=
 bif Wg nx top&&(zA5 ops deps Ls A (tab.map (·.1)) (planX ops Ls A (tab.map (·.1))) (vs.map (·.1))&&((allB ops.length fun i=>(ops.getD i default).looks.all (zFU ops A i))&&(planX ops Ls A (tab.map (·.1))).all (chkE P call ops A K (zap K vs) rs nx top tab)))
 then some (zap K vs,zmL tab Ls,top) else none
def zGU (P:Program) (call:zbA) (ops:List AOper) (deps:List (List Nat)) (K:Kn) (H:AH) (nx:Nat):Option (Kn × AH × Nat) :=
 match seqV P call ops K H nx with
 |
  some (vs,rs,top) =>
  match growT P call ops ((Wj ops.length).filter fun i => !(ops.getD i default).fixed) (zGq [] deps) K (zap K vs) rs top 5000 [[]] [([],H)] with
  | some tab0=>drawR P call ops deps ((Wj ops.length).filter fun i => !(ops.getD i default).fixed) (zGq [] deps) vs rs (([],H)::tab0.tail) K nx top
  | none=>none
 | none=>none
theorem zDI (H:AH) (ι:Inj):zbI H idS.two ι=ι:=by
 funext r q g
 simp[zbI,Sg.two,idS]
theorem vr_id {w:World} {L:Nat→Prop} {ι:Inj} {H:AH} {nx:Nat} (rel:RelH w L ι H nx) {a b:AV} (h:Vw H H idS.two noD true a b) {v:Value} (hv:VR w (Lt L ι H) ι v a):VR w (Lt L ι H) ι v b:=by have:=h.sound rel (M:=Lt L ι H) (fun _ h=>h) (fun _ _ _ _ _ _ h=>h.elim) v hv;rw[zDI] at this;exact this
theorem RelH.up {w:World} {L:Nat→Prop} {ι:Inj} {H:AH} {nx nx':Nat} (rel:RelH w L ι H nx) (h:nx≤nx'):RelH w L ι H nx' :=
 ⟨rel.row,rel.apart,rel.out,fun r q g l hi=>Wy (rel.idx r q g l hi) h,fun r o hi=>Wy (rel.dom r o hi) h,rel.gen,rel.Lsz⟩
def vsD (ops:List AOper) (Kf:Kn) (l:List Bool):List (Nat × AV):=(Wj ops.length).filterMap fun i=>bif getB l i then (ops.getD i default).dst.map fun d=>(d,Kf.get d) else none
theorem zxE {ops:List AOper} {Kf:Kn} {l:List Bool} {p:Nat × AV}:p∈vsD ops Kf l↔∃i,i < ops.length∧getB l i=true∧(ops.getD i default).dst=some p.1∧p.2=Kf.get p.1:=by
 unfold vsD;rw[Wz];constructor
 ·
  rintro⟨i,hi,h⟩;refine⟨i,Wo.1 hi,?_⟩
  cases hb:getB l i with
  | false=>rw[hb] at h;cases h
  |
   true =>
   rw[hb] at h;obtain⟨d,hd,rfl⟩:=Wp.1 h;exact⟨rfl,hd,rfl⟩
 · rintro⟨i,hi,hb,h,he⟩;exact⟨i,Wo.2 hi,by rw[hb,cond_true,h,Option.map_some,←he]⟩
theorem znH:∀ {vs:List (Nat × AV)} {K:Kn} {t:Nat} {v:AV},(∀p∈vs,p.1=t→p.2=v)→t∈vs.map (·.1)→(zap K vs).get t=v
 | [],_,_,_,_,h=>by simp at h
 |
  (d,u)::r,K,t,v,h,hm=>by
  rw[zap]
  by_cases hr:t∈r.map (·.1)
  · exact znH (fun p hp=>h p (Wq _ hp)) hr
  ·
   rw[zer hr,Kn.get_set];simp only[Wl,WA] at hm
   rcases hm with hm|hm
   · subst hm;rw[if_pos rfl];exact h (t,u) (by simp) rfl
   · exact absurd hm hr
def zjk (ops:List AOper) (K0 Kf:Kn) (l:List Bool):Kn:=zap K0 (vsD ops Kf l)
theorem zhS {ops:List AOper} {K0 Kf:Kn} {l:List Bool} {i t:Nat} (hi:i < ops.length) (hb:getB l i=true) (hd:(ops.getD i default).dst=some t):(zjk ops K0 Kf l).get t=Kf.get t:=by unfold zjk;refine znH (fun p hp e=>?_) (Wc.2 ⟨(t,Kf.get t),zxE.2 ⟨i,hi,hb,hd,rfl⟩,rfl⟩);obtain⟨_,_,_,_,h⟩:=zxE.1 hp;rw[h,e]
theorem zkH {ops:List AOper} {K0 Kf:Kn} {l:List Bool} {t:Nat} (h:∀i,i < ops.length→getB l i=true→(ops.getD i default).dst≠some t):(zjk ops K0 Kf l).get t=K0.get t:=by
 unfold zjk
 refine zer fun hm=>?_
 obtain⟨p,hp,e⟩:=Wc.1 hm;obtain⟨i,hi,hb,hd,_⟩:=zxE.1 hp;exact h i hi hb (by rw[hd,e])
theorem zpB {ops:List AOper} {A:List (List Nat)} {i t:Nat} (h:t∈zvk ops A i):∃j,j < ops.length∧(j=i∨i∈A.getD j [])∧(ops.getD j default).dst=some t:=by
 unfold zvk at h;obtain⟨j,hj,h⟩:=Wz.1 h;refine⟨j,Wo.1 hj,?_⟩
 cases hb:Wa j i||memN (A.getD j []) i with
 | false=>rw[hb] at h;cases h
 |
  true =>
  rw[hb] at h;refine⟨?_,h⟩
  rcases WB.1 hb with hb|hb
  · exact .inl (zl hb)
  · exact .inr ((zY _ _).1 hb)
theorem Kn.get_mem {K:Kn} {t:Nat}:K.get t=.undef∨(t,K.get t)∈K:=by
 induction K with
 | nil=>exact .inl rfl
 |
  cons p r ih =>
  obtain⟨j,u⟩:=p;simp only[Kn.get]
  cases hb:Wa j t with
  | true=>rw[zl hb];exact .inr (by simp)
  |
   false =>
   rcases ih with h|h
   · exact .inl h
   · exact .inr (Wq _ h)
theorem zCd {ops:List AOper} {A:List (List Nat)} {K0 Kf:Kn} {i t:Nat} (h:t∈zvk ops A i):(zw7 ops A K0 Kf i).get t=K0.get t:=by
 unfold zw7;refine znH (fun p hp e=>?_) ?_
 · obtain⟨x,_,rfl⟩:=Wc.1 hp;simp only at e;subst e;rfl
 · rw[WC];exact Wc.2 ⟨t,h,rfl⟩
theorem zyj {ops:List AOper} {A:List (List Nat)} {K0 Kf:Kn} {i t:Nat} (h:t∉zvk ops A i):(zw7 ops A K0 Kf i).get t=Kf.get t:=by
 unfold zw7
 refine zer fun hm=>?_
 rw[WC] at hm;obtain⟨x,hx,rfl⟩:=Wc.1 hm;exact h hx
theorem zDz {ops:List AOper} {A:List (List Nat)} {i j t:Nat} (hj:j < ops.length) (h:j=i∨i∈A.getD j []) (hd:(ops.getD j default).dst=some t):t∈zvk ops A i:=by
 unfold zvk;refine Wz.2 ⟨j,Wo.2 hj,?_⟩
 have:(Wa j i||memN (A.getD j []) i)=true:=by
  rcases h with h|h
  · rw[h,zaG];rfl
  · rw[(zY _ _).2 h,Bool.or_true]
 rw[this];exact hd
structure DOk (ops:List AOper) (deps:List (List Nat)) (Ls:List Nat) (A:List (List Nat)) (St:List (List Nat)) (plan:Plan) (ks:List Nat):Prop where
 low:∀(i:Nat),i < ops.length→∀j∈deps.getD i [],j < i
 clo:∀(i:Nat),i < ops.length→∀j∈A.getD i [],j∈deps.getD i []∨∃d∈deps.getD i [],j∈A.getD d []
 one:∀(i j d:Nat),i < ops.length→j < ops.length→(ops.getD i default).dst=some d→(ops.getD j default).dst=some d→i=j
 keys:∀k∈ks,∃j,j < ops.length∧(ops.getD j default).dst=some k
 look:∀(i:Nat),i < ops.length→∀t∈(ops.getD i default).looks,(∃j∈A.getD i [],(ops.getD j default).dst=some t)∨∀j,j < ops.length→(ops.getD j default).dst=some t→j=i∨i∈A.getD j []
 lin:∀i∈Ls,i < ops.length
 st0:[]∈St
 stc:∀S∈St,∀i∈Ls,zdL Ls A i S=true→zkS Ls i S∈St
 plan:∀(i:Nat),i < ops.length→((ops.getD i default).fixed=true∧(ops.getD i default).sees=false∧i∉Ls∧anyP plan i=true) ∨
  (i∉Ls∧∀S∈St,zdL Ls A i S=true→memP plan i S S=true)∨(i∈Ls∧∀S∈St,zdL Ls A i S=true→memP plan i S (zkS Ls i S)=true)
theorem zrF {ops:List AOper} {i:Nat} (hi:i < ops.length):(ops.map zp4).getD i default=zp4 (ops.getD i default):=by rw[Wf,WD,Wf,Wr hi];rfl
theorem zlS {ops:List AOper} {i:Nat}:((ops.map zp4).getD i default).dst=(ops.getD i default).dst:=by
 by_cases hi:i < ops.length
 · rw[zrF hi];rfl
 · rw[Wf,Wt (by rw[WE];omega),Wf,Wt (by omega)]
theorem dok_of {ops:List AOper} {deps:List (List Nat)} {Ls:List Nat} {A:List (List Nat)} {St:List (List Nat)} {plan:Plan} {ks:List Nat} (h:zA5 ops deps Ls A St plan ks=true) (h2:(allB ops.length fun i=>(ops.getD i default).looks.all (zFU ops A i))=true):DOk ops deps Ls A St plan ks:=by
 have ok:=zuB h;have hl:(ops.map zp4).length=ops.length:=WE _;refine⟨fun i hi=>ok.low i (by omega),fun i hi=>ok.clo i (by omega),fun i j d hi hj h1 h2=>ok.one i j d (by omega) (by omega) (by rw[zlS];exact h1) (by rw[zlS];exact h2),fun k hk=>?_,fun i hi t ht=>?_,fun i hi=>by have:=ok.lin i hi;omega,ok.st0,ok.stc,fun i hi=>?_⟩
 · obtain⟨o,ho,hd⟩:=ok.keys k hk;obtain⟨j,hj,he⟩:=WK.1 ho;refine⟨j,by omega,?_⟩;rw[←zlS,Wf,Wr hj,he];exact hd
 ·
  have:=Wh.1 (za7 h2 hi) t ht;unfold zFU at this
  rcases WB.1 this with this|this
  ·
   obtain⟨j,hj,hd⟩:=WL.1 this;refine .inl ⟨j,hj,?_⟩
   cases e:(ops.getD j default).dst with
   | none=>rw[e] at hd;cases hd
   | some d=>rw[e] at hd;rw[zl hd]
  ·
   refine .inr fun j hj hd=>?_
   have:=za7 this hj;rw[hd] at this;simp only[zaG,Bool.not_true,Bool.false_or,Wu] at this
   rcases this with this|this
   · exact .inl (zl this)
   · exact .inr ((zY _ _).1 this)
 ·
  rcases ok.plan i (by omega) with ⟨h1,h2,h3,h4⟩|h|h
  ·
   rw[zrF hi] at h1 h2;refine .inl ⟨?_,?_,h3,h4⟩
   ·
    cases hf:(ops.getD i default).fixed with
    | true=>rfl
    | false=>unfold zp4 at h1;rw[hf] at h1;cases h1
   ·
    cases hs:(ops.getD i default).sees with
    | false=>rfl
    | true=>unfold zp4 at h1;rw[hs,Bool.not_true,Bool.and_false] at h1;cases h1
  · exact .inr (.inl h)
  · exact .inr (.inr h)
theorem zl9 {ops:List AOper} {deps:List (List Nat)} {Ls:List Nat} {A:List (List Nat)} {St:List (List Nat)} {plan:Plan} {ks:List Nat} (ok:DOk ops deps Ls A St plan ks) {l:List Bool}
  (hc:∀i,i < ops.length→getB l i=true→∀j∈deps.getD i [],getB l j=true):∀(i:Nat),i < ops.length→(∀j∈deps.getD i [],getB l j=true)→∀j∈A.getD i [],getB l j=true:=by
 intro i
 induction i using Nat.strongRecOn with
 |
  _ i ih =>
  intro hi hd j hj
  rcases ok.clo i hi j hj with h | ⟨d,h1,h2⟩
  · exact hd j h
  · have hlt:=ok.low i hi d h1;exact ih d hlt (by omega) (hc d (by omega) (hd d h1)) j h2
structure DX (P:Program) (call:zbA) (ops:List AOper) (deps:List (List Nat)) (Ls:List Nat) (A:List (List Nat)) (St:List (List Nat)) (plan:Plan) (ks:List Nat) (K0 Kf:Kn) (rs:List (Nat × Nat)) (nx top:Nat) (tab:STab):Prop where
 ok:DOk ops deps Ls A St plan ks
 chk:∀e∈plan,chkE P call ops A K0 Kf rs nx top tab e=true
 lsF:∀i,i∈Ls→(ops.getD i default).fixed=false
 lsT:∀i,i < ops.length→i∉Ls→(ops.getD i default).fixed=true
theorem zyx:∀ {l:Plan} {a:Nat},anyP l a=true→∃S,(a,S,S)∈l
 | [],_,h=>by cases h
 |
  (i,k,k')::r,a,h=>by
  simp only[anyP,Wu,Wd] at h
  rcases h with ⟨h1,h2⟩|h
  · rw[←zl h1,←ze6 h2];exact⟨k,by simp⟩
  · obtain⟨S,hS⟩:=zyx h;exact⟨S,Wq _ hS⟩
theorem zth:∀ {l:Plan} {a:Nat} {b c:List Nat},memP l a b c=true→(a,b,c)∈l
 | [],_,_,_,h=>by cases h
 |
  (i,k,k')::r,a,b,c,h=>by
  simp only[memP,Wu,Wd] at h
  rcases h with ⟨h1,h2,h3⟩|h
  · rw[←zl h1,←ze6 h2,←ze6 h3];simp
  · exact Wq _ (zth h)
theorem zv8 {K:Kn} {d:Option Nat} {v:AV} {t:Nat} (h:d≠some t):(setO K d v).get t=K.get t:=by rw[zl4];exact zmc h
theorem zwL {K:Kn} {d:Option Nat} {v:AV} {t:Nat} (h:d=some t):(setO K d v).get t=v:=by subst h;simp[setO,Kn.get_set]
theorem upd_eq {ρ:Nat→AV} {d:Option Nat} {v:AV} {t:Nat} (h:d=some t):upd ρ d v t=v:=by subst h;simp[upd]
theorem DX.sound {call:zbA} (hs:call.Sound P) {nt:Nat} {w0:World} {L:Nat→Prop} {ι0:Inj} {H0:AH} {B:Nat} (base:RelH w0 L ι0 H0 B) {id:Nat} {ops:Array Oper} {bs:List AOper} (hlen:bs.length=ops.size)
  (hrel:∀(i:Nat) (o:Oper) (ao:AOper),ops.toList[i]? = some o→bs[i]? = some ao→OpRel P nt ops o ao) (hfol:P.follows .mixedOrders=true)
  {Ls:List Nat} {A St:List (List Nat)} {plan:Plan} {vs:List (Nat × AV)} {rs:List (Nat × Nat)} {tab:STab} {K:Kn} {H:AH} {nx top:Nat} (htop:nx≤top) (htab:zmL tab []=H)
  (dx:DX P call bs (ops.toList.map zcW) Ls A St plan (vs.map (·.1)) K (zap K vs) rs nx top tab) {w:World} {ι:Inj} {a:Act} (hin:In nt w0 L ι0 H0 B w ι K.get H nx a) {Q:QT} (hq:Q .normal (zap K vs) (zmL tab Ls) top) :
  (Code.region id ops true).wp P (QQ nt w0 L ι0 H0 B Q) a w:=by
 obtain⟨ok,hchk,hlsF,hlsT⟩:=dx;have hBnx:=hin.le;refine wp_region_any hfol ?_
 have main:=zB9 (P:=P) (Qc:=QQ nt w0 L ι0 H0 B Q) hlen (fun l a w=>∃ι,In nt w0 L ι0 H0 B w ι (zjk bs K (zap K vs) l).get (zmL tab (Ls.filter (getB l))) top a∧(∀i,i < bs.length→getB l i=true→∀j∈(ops.toList.map zcW).getD i [],getB l j=true)∧Ls.filter (getB l)∈St) ?_ ?_ bs.length (Wi bs.length false) a { w with drawn:=w.drawn+1 } (by simp) (by
  have:∀n,zfB (Wi n false)=n:=fun n=>by
   induction n with
   | zero=>rfl
   | succ n ih=>rw[List.replicate_succ,zfB,ih];simp;omega
  rw[this]
  exact Nat.le_refl _) ?_
 ·
  rw[hlen] at main
  simpa using main
 ·
  rintro l a w hl ⟨ι,hin,hclo,hst⟩ hnone
  have hall:∀i,i < bs.length→getB l i=true:=by
   intro i
   induction i using Nat.strongRecOn with
   |
    _ i ih =>
    intro hi;have:=hnone i hi
    cases hb:getB l i with
    | true=>rfl
    |
     false =>
     have hr:zbi (ops.toList.map zcW) l i=true:=zaQ.2 ⟨hb,fun j hj=>ih j (ok.low i hi j hj) (by have:=ok.low i hi j hj;omega)⟩;rw[this] at hr;cases hr
  have hcnt:Ls.filter (getB l)=Ls:=List.filter_eq_self.2 (fun m hm=>hall m (ok.lin m hm));rw[hcnt] at hin
  have e:(zjk bs K (zap K vs) l).get=(zap K vs).get:=funext fun t=>by
   by_cases h:∃i,i < bs.length∧(bs.getD i default).dst=some t
   · obtain⟨i,hi,hd⟩:=h;exact zhS hi (hall i hi) hd
   · rw[zkH fun i hi _ hd=>h ⟨i,hi,hd⟩];exact(zer fun hk=>h (ok.keys t hk)).symm
  rw[e] at hin;exact⟨ι,_,_,_,hin,hq⟩
 ·
  rintro l i a w hl hi hr ⟨ι,hin,hclo,hst⟩ o ho;obtain⟨hun,hdeps⟩:=zaQ.1 hr;have hA:=zl9 ok hclo i hi hdeps
  have hlt:∀j,getB l j=true→j < bs.length:=fun j hj=>by apply Classical.byContradiction;intro hcon;unfold getB at hj;rw[Wf,Wt (by omega)] at hj;cases hj
  have hgetD:∀ {t:Nat} {o:AOper},o∈bs→o.dst=some t→∃j,j < bs.length∧(bs.getD j default).dst=some t:=fun {t o} ho hd=>by obtain⟨j,hj,he⟩:=WK.1 ho;exact⟨j,hj,by rw[Wf,Wr hj,he];exact hd⟩
  have hcomp:zdL Ls A i (Ls.filter (getB l))=true:=by
   unfold zdL;simp only[Wd,WF,Wh,Wu];refine⟨?_,fun m hm=>?_,fun m hm=>?_⟩
   ·
    cases hb:memN (Ls.filter (getB l)) i with
    | false=>rfl
    |
     true =>
     have:=(Wk.1 ((zY _ _).1 hb)).2;rw[hun] at this;cases this
   ·
    cases hb:memN (A.getD i []) m with
    | false=>exact .inl rfl
    | true=>exact .inr ((zY _ _).2 (Wk.2 ⟨hm,hA m ((zY _ _).1 hb)⟩))
   ·
    obtain⟨hmL,hml⟩:=Wk.1 hm
    cases hb:memN (A.getD m []) i with
    | false=>rfl
    |
     true =>
     have:=zl9 ok hclo m (ok.lin m hmL) (hclo m (ok.lin m hmL) hml) i ((zY _ _).1 hb);rw[hun] at this;cases this
  have hlk:∀t∈(bs.getD i default).looks,(zjk bs K (zap K vs) l).get t=(zw7 bs A K (zap K vs) i).get t:=fun t ht=>by
   rcases ok.look i hi t ht with ⟨j,hj,hd⟩|h
   ·
    have hdone:=hA j hj;have hjn:=hlt j hdone;rw[zhS hjn hdone hd,zyj fun hf=>?_];obtain⟨j',hj',hc,hd'⟩:=zpB hf;have:=ok.one j' j t hj' hjn hd' hd;subst this
    rcases hc with hc|hc
    · subst hc;rw[hun] at hdone;cases hdone
    · have:=zl9 ok hclo j' hjn (hclo j' hjn hdone) i hc;rw[hun] at this;cases this
   ·
    rw[zkH fun j hj hb hd=>?_]
    ·
     by_cases he:∃j,j < bs.length∧(bs.getD j default).dst=some t
     · obtain⟨j,hj,hd⟩:=he;rw[zCd (zDz hj (h j hj hd) hd)]
     · rw[zyj fun hf=>(by obtain⟨j,hj,_,hd⟩:=zpB hf;exact he ⟨j,hj,hd⟩)];exact(zer fun hk=>he (ok.keys t hk)).symm
    ·
     rcases h j hj hd with hc|hc
     · subst hc;rw[hun] at hb;cases hb
     · have:=zl9 ok hclo j hj (hclo j hj hb) i hc;rw[hun] at this;cases this
  have hclo':∀j,j < bs.length→getB (l.set i true) j=true→∀m∈(ops.toList.map zcW).getD j [],getB (l.set i true) m=true:=by
   intro j hj hjl m hm;rw[zea (by omega)] at hjl ⊢
   by_cases hmi:m=i
   · rw[if_pos hmi]
   ·
    rw[if_neg hmi]
    by_cases hji:j=i
    · subst hji;exact hdeps m hm
    · rw[if_neg hji] at hjl;exact hclo j hj hjl m hm
  have hset:∀j,getB (l.set i true) j=if j=i then true else getB l j:=fun j=>zea (by omega)
  have hsame:∀t,(bs.getD i default).dst≠some t→(zjk bs K (zap K vs) (l.set i true)).get t=(zjk bs K (zap K vs) l).get t:=fun t ht=>by
   by_cases h:∃j,j < bs.length∧getB l j=true∧(bs.getD j default).dst=some t
   · obtain⟨j,hj,hb,hd⟩:=h;rw[zhS hj hb hd,zhS hj (by rw[hset];split<;>first|rfl|exact hb) hd]
   ·
    rw[zkH fun j hj hb hd=>h ⟨j,hj,hb,hd⟩,zkH fun j hj hb hd=>?_];rw[hset] at hb
    by_cases e:j=i
    · subst e;exact ht hd
    · rw[if_neg e] at hb;exact h ⟨j,hj,hb,hd⟩
  have hself:∀t,(bs.getD i default).dst=some t→(zjk bs K (zap K vs) (l.set i true)).get t=(zap K vs).get t:=fun t ht=>zhS hi (by rw[hset,if_pos rfl]) ht
  have notin:i∉Ls→Ls.filter (getB (l.set i true))=Ls.filter (getB l):=fun hni=>by
   refine WG fun m hm=>?_
   rw[zea (by omega),if_neg (fun e:m=i=>hni (by rw[←e];exact hm))]
  have hro:=hrel i o (bs.getD i default) (by simp[ho]) (by rw[Wf,Wr hi];rfl)
  have entry:∃e∈plan,e.1=i∧((i∉Ls∧((bs.getD i default).sees=false∨e.2.1=Ls.filter (getB l)))∨(i∈Ls∧e.2.1=Ls.filter (getB l)∧e.2.2=Ls.filter (getB (l.set i true))∧Ls.filter (getB (l.set i true))∈St)):=by
   rcases ok.plan i hi with ⟨hf,hse,hni,ha⟩ | ⟨hni,hk⟩ | ⟨hin',hk⟩
   · obtain⟨S,hS⟩:=zyx ha;exact⟨_,hS,rfl,.inl ⟨hni,.inl hse⟩⟩
   · exact⟨_,zth (hk _ hst hcomp),rfl,.inl ⟨hni,.inr rfl⟩⟩
   ·
    have hnx:zkS Ls i (Ls.filter (getB l))=Ls.filter (getB (l.set i true)):=by
     unfold zkS
     refine WG fun m hm=>?_
     rw[zea (by omega)]
     by_cases hmi:m=i
     · subst hmi;simp[zaG]
     ·
      rw[if_neg hmi,zbJ hmi,Bool.false_or]
      cases hb:getB l m with
      | true=>exact(zY _ _).2 (Wk.2 ⟨hm,hb⟩)
      |
       false =>
       cases hb2:memN (Ls.filter (getB l)) m with
       | false=>rfl
       |
        true =>
        have:=(Wk.1 ((zY _ _).1 hb2)).2;rw[hb] at this;cases this
    have h2:=ok.stc _ hst i hin' hcomp;rw[hnx] at h2;exact⟨_,zth (hk _ hst hcomp),rfl,.inr ⟨hin',rfl,hnx,h2⟩⟩
  obtain⟨e,hep,he1,hcase⟩:=entry;have hc:=hchk e hep;unfold chkE at hc;rw[he1] at hc;split at hc
  ·
   rename_i v H' nx' hv
   rcases hcase with ⟨hni,hsee⟩ | ⟨hil,hS,hS',hst'⟩
   ·
    have hf:=hlsT i hi hni;rw[hf] at hc;simp only[cond_true] at hc;have hex0:ExF P false (bs.getD i default) (zjk bs K (zap K vs) l).get (zmL tab e.2.1) top (fun ρ' _ _=>ρ'=upd (zjk bs K (zap K vs) l).get (bs.getD i default).dst v):=zCE hs hlk hv rfl;obtain⟨v1,hy,hv1⟩:=zm4 hf hex0
    have hy':Yld P (bs.getD i default) (zjk bs K (zap K vs) l).get (zmL tab (Ls.filter (getB l))) top v1:=by
     rcases hsee with hse|hse
     · exact ztk hse hy
     · rw[←hse];exact hy
    have hex:ExF P false (bs.getD i default) (zjk bs K (zap K vs) l).get (zmL tab (Ls.filter (getB l))) top (fun ρ' H2 nx2=>ρ'=upd (zjk bs K (zap K vs) l).get (bs.getD i default).dst v∧H2=zmL tab (Ls.filter (getB l))∧nx2=top):=zka hy' ⟨hv1,rfl,rfl⟩
    refine zmS hro hin hex fun w' ι' ρ' H2 nx2 a' hin' ⟨e1,e2,e3⟩=>?_
    subst e1 e2 e3;refine⟨ι',?_,hclo',by rw[notin hni];exact hst⟩;rw[notin hni];refine⟨hin'.size,hin'.defers,hin'.st,hin'.le,fun t=>?_⟩
    by_cases hd:(bs.getD i default).dst=some t
    · have h1:=hin'.kn t;rw[upd_eq hd] at h1;rw[hd] at hc;rw[hself t hd];exact vr_id hin'.st.rel (zxZ 30 _ _ hc) h1
    · have h1:=hin'.kn t;rw[zmc hd] at h1;rw[hsame t hd];exact h1
   ·
    have hf:=hlsF i hil;rw[hf] at hc;simp only[cond_false,Wd] at hc;obtain⟨hc1,hc2,hc3,hc4,hc5,hc6⟩:=hc;rw[hS] at hv;rw[hS'] at hc3;have hex:ExF P false (bs.getD i default) (zjk bs K (zap K vs) l).get (zmL tab (Ls.filter (getB l))) top (fun ρ' H2 nx2=>ρ'=upd (zjk bs K (zap K vs) l).get (bs.getD i default).dst v∧H2=H'∧nx2=nx'):=zCE hs hlk hv ⟨rfl,rfl,rfl⟩
    refine zmS hro hin hex fun w' ι' ρ' H2 nx2 a' hin' ⟨e1,e2,e3⟩=>?_
    subst e1 e2 e3;have hB:=hin.le;have hlo:=bleT hc1;have hle:=bleT hc2;have vw:=zE4 (B:=B) (top:=top) (nx2:=top) (H:=H2) (H2:=zmL tab (Ls.filter (getB (l.set i true)))) (Nat.le_trans hBnx hlo) hB hB hle hc3;rw[←zl4] at hin'
    obtain⟨ι2,hin2⟩:=hin'.ent base (K2:=zjk bs K (zap K vs) (l.set i true)) (Ent.view _ _ vw fun t=>by
     by_cases hd:(bs.getD i default).dst=some t
     · rw[zwL hd,hself t hd];rw[hd] at hc4;exact zxZ 30 _ _ hc4
     ·
      rw[zv8 hd,hsame t hd]
      by_cases h:∃j,j < bs.length∧getB l j=true∧(bs.getD j default).dst=some t
      ·
       obtain⟨j,hj,hb,hdj⟩:=h;rw[zhS hj hb hdj]
       rcases Kn.get_mem (K:=zap K vs) (t:=t) with h|h
       · rw[h];exact .undef _ _
       ·
        have:=Wh.1 hc5 _ h
        rcases WB.1 this with h2|h2
        ·
         exfalso;obtain⟨j',hj',hji,hdj'⟩:=zpB ((zY _ _).1 h2);have:=ok.one j' j t hj' hj hdj' hdj;subst this
         rcases hji with hji|hji
         · subst hji;exact hd hdj
         · have:=zl9 ok hclo j' hj (hclo j' hj hb) i hji;rw[hun] at this;cases this
        · exact zCM 30 _ h2
      ·
       rw[zkH fun j hj hb hdj=>h ⟨j,hj,hb,hdj⟩]
       rcases Kn.get_mem (K:=K) (t:=t) with h|h
       · rw[h];exact .undef _ _
       · exact zCM 30 _ (Wh.1 hc6 _ h))
    exact⟨ι2,hin2,hclo',hst'⟩
  · cases hc
 ·
  refine⟨ι,?_,fun i hi h=>?_,?_⟩
  ·
   have h0:Ls.filter (getB (Wi bs.length false))=[]:=by
    rw[WH];intro i _
    have:getB (Wi bs.length false) i=false:=by
     unfold getB;rw[Wf,Wv]
     split<;>rfl
    rw[this];simp
   rw[h0,htab];have hd:=hin.drewW;refine⟨hd.size,hd.defers,⟨hd.st.ext,hd.st.inj,hd.st.rel.up htop,hd.st.lv⟩,Nat.le_trans hd.le htop,fun t=>?_⟩;rw[zkH fun i hi hb _=>?_]
   · exact hd.kn t
   ·
    have:getB (Wi bs.length false) i=false:=by
     unfold getB;rw[Wf,Wv]
     split<;>rfl
    rw[this] at hb;cases hb
  ·
   have:getB (Wi bs.length false) i=false:=by
    unfold getB;rw[Wf,Wv]
    split<;>rfl
   rw[this] at h;cases h
  ·
   have h0:Ls.filter (getB (Wi bs.length false))=[]:=by
    rw[WH];intro i _
    have:getB (Wi bs.length false) i=false:=by
     unfold getB;rw[Wf,Wv]
     split<;>rfl
    rw[this];simp
   rw[h0];exact ok.st0
theorem zFB {call:zbA} (hs:call.Sound P) {nt:Nat} {w0:World} {L:Nat→Prop} {ι0:Inj} {H0:AH} {B:Nat} (base:RelH w0 L ι0 H0 B) {id:Nat} {ops:Array Oper} {bs:List AOper} (hlen:bs.length=ops.size)
  (hrel:∀(i:Nat) (o:Oper) (ao:AOper),ops.toList[i]? = some o→bs[i]? = some ao→OpRel P nt ops o ao) (hfol:P.follows .mixedOrders=true)
  {K:Kn} {H:AH} {nx:Nat} {w:World} {ι:Inj} {a:Act} (hin:In nt w0 L ι0 H0 B w ι K.get H nx a) {r:Kn × AH × Nat} (h:zGU P call bs (ops.toList.map zcW) K H nx=some r) {Q:QT} (hq:Q .normal r.1 r.2.1 r.2.2) :
  (Code.region id ops true).wp P (QQ nt w0 L ι0 H0 B Q) a w:=by
 unfold zGU at h;split at h
 ·
  rename_i vs rs top _;split at h
  ·
   rename_i tab htab;unfold drawR at h;generalize hb:(Wg nx top&&_)=b at h
   cases b with
   | false=>cases h
   |
    true =>
    simp only[cond_true,WI] at h;subst h;simp only[Wd] at hb;obtain⟨h1,h3,h5,h4⟩:=hb;refine DX.sound hs base hlen hrel hfol (bleT h1) rfl ⟨dok_of h3 h5,fun e he=>Wh.1 h4 e he,fun i hi=>?_,fun i hi hni=>?_⟩ hin hq
    ·
     have:=(Wk.1 hi).2
     simpa using this
    ·
     cases hf:(bs.getD i default).fixed with
     | true=>rfl
     | false=>exact(hni (Wk.2 ⟨Wo.2 hi,by rw[hf];rfl⟩)).elim
  · cases h
 · cases h
end
def zqC (nx:Nat):Nat→AV→List Nat
 | 0,_=>[]
 |
  d+1,v=>match v with
  | .own r _ _ _ _=>bif Wb r nx then [] else [r]
  | .ptr r _ _ _ _=>bif Wb r nx then [] else [r]
  | .mp r _=>bif Wb r nx then [] else [r]
  | .it r=>bif Wb r nx then [] else [r]
  | .agg l=>l.flatMap (zqC nx d)
  | .tup l=>l.flatMap (zqC nx d)
  | .fn _ l=>l.flatMap (zqC nx d)
  | _=>[]
def zpW (nx:Nat):List AV→List Nat→List Nat
 | [],acc=>acc
 |
  v::t,acc=>match v with
  | .int _ _=>zpW nx t acc
  | .sl _ _ _=>zpW nx t acc
  | .nilsl=>zpW nx t acc
  | v=>zpW nx t (zqC nx 30 v++acc)
def zwZ (nx:Nat):List (List AV)→List Nat→List Nat
 | [],acc=>acc
 | c::t,acc=>zwZ nx t (zpW nx c acc)
def zCr (nx:Nat):Option AObj→List Nat→List Nat
 | some (.row _ els _),acc=>zwZ nx els acc
 | some (.fam _ ins),acc=>ins.foldl (fun acc p=>zwZ nx p.1 acc) acc
 | none,acc=>acc
def zAV (nx:Nat) (H:AH):Nat→List Nat→Nat→Nat
 | 0,_,seen=>seen
 | _+1,[],seen=>seen
 | n+1,r::todo,seen=>bif We seen r then zAV nx H n todo seen else zAV nx H n (zCr nx (H.look r) todo) (Nat.lor seen (Ww 1 r))
def oldR (nx:Nat):AH→List Nat→List Nat
 | [],acc=>acc
 | (r,o)::t,acc=>bif Wb r nx then oldR nx t (zCr nx (some o) acc) else oldR nx t acc
def zGg (nx:Nat) (v:AV) (H:AH):Nat:=zAV nx H 3000 (oldR nx H (zqC nx 30 v)) 0
def AH.keepM (nx m:Nat):AH→AH
 | []=>[]
 | (r,o)::t=>bif Wb r nx||We m r then (r,o)::AH.keepM nx m t else AH.keepM nx m t
theorem AH.look_keepM (nx m:Nat) (H:AH) (r:Nat):(H.keepM nx m).look r=bif Wb r nx||We m r then H.look r else none:=by
 induction H with
 | nil=>simp only[AH.keepM,AH.look];cases (Wb r nx||We m r)<;>rfl
 |
  cons p t ih =>
  obtain⟨j,o⟩:=p;simp only[AH.keepM]
  cases hm:(Wb j nx||We m j) with
  |
   true =>
   simp only[cond_true,AH.look,ih]
   cases hb:Wa j r with
   | true=>rw[←zl hb,hm];rfl
   | false=>rfl
  |
   false =>
   simp only[cond_false,ih,AH.look]
   cases hb:Wa j r with
   | true=>rw[←zl hb,hm];rfl
   | false=>rfl
theorem AH.get_keepM (nx m:Nat) (H:AH) (r q:Nat):(H.keepM nx m).get r q=bif Wb r nx||We m r then H.get r q else none:=by
 unfold AH.get;rw[AH.look_keepM]
 cases (Wb r nx||We m r)<;>rfl
def gcH (nx:Nat) (v:AV) (H:AH) (nx':Nat):AH:=bif Wg nx' (nx+4) then H else H.keepM nx (zGg nx v H)
theorem zGc {nx:Nat} {v:AV} {H:AH} {nx' r q:Nat} {o:AObj} (h:(gcH nx v H nx').get r q=some o):H.get r q=some o:=by
 unfold gcH at h
 cases hb:Wg nx' (nx+4) with
 | true=>rw[hb] at h;exact h
 |
  false =>
  rw[hb] at h;simp only[cond_false,AH.get_keepM] at h
  cases hm:(Wb r nx||We (zGg nx v H) r) with
  | true=>rw[hm] at h;exact h
  | false=>rw[hm] at h;cases h
theorem zDr {nx:Nat} {v:AV} {H:AH} {nx' r:Nat} {o:AObj} (h:(gcH nx v H nx').look r=some o):H.look r=some o:=by
 unfold gcH at h
 cases hb:Wg nx' (nx+4) with
 | true=>rw[hb] at h;exact h
 |
  false =>
  rw[hb] at h;simp only[cond_false,AH.look_keepM] at h
  cases hm:(Wb r nx||We (zGg nx v H) r) with
  | true=>rw[hm] at h;exact h
  | false=>rw[hm] at h;cases h
section
variable {P:Program}
theorem RelH.sub {w:World} {L:Nat→Prop} {ι:Inj} {H H':AH} {nx:Nat} (rel:RelH w L ι H nx) (hg:∀r q o,H'.get r q=some o→H.get r q=some o) (hd:∀r o,H'.look r=some o→r < nx) :
  (∀b,live ι H' b→live ι H b)∧RelH w L ι H' nx:=by
 have hl:∀b,live ι H' b→live ι H b:=fun b ⟨r,q,sz,els,g,l,h1,h2,h3,h4⟩=>⟨r,q,sz,els,g,l,hg _ _ _ h1,h2,h3,h4⟩
 have hLt:∀b,Lt L ι H' b→Lt L ι H b:=fun b h=>h.elim .inl fun h=>.inr (hl b h)
 refine⟨hl,fun r q sz els g h=>?_,fun r1 q1 r2 q2 s1 e1 g1 l1 s2 e2 g2 l2 h1 h2=>rel.apart _ _ _ _ _ _ _ _ _ _ _ _ (hg _ _ _ h1) (hg _ _ _ h2),fun b hb=>rel.out b (hl b hb),rel.idx,hd,fun r q sz els g h=>rel.gen _ _ _ _ _ (hg _ _ _ h),rel.Lsz⟩;obtain⟨l,h1,ok⟩:=rel.row _ _ _ _ _ (hg _ _ _ h);exact⟨l,h1,ok.trans (fun _=>rfl) fun v a hv=>hv.anti hLt⟩
theorem zFV {f:FuncId} {args:List AV} {H:AH} {nx:Nat} {k:AV→AH→Nat→Prop} (h:zab P f args H nx (fun v H' nx'=>k v (gcH nx v H' nx') nx')):zab P f args H nx k:=by
 intro w L ι vs h1 h2
 refine(h w L ι vs h1 h2).mono fun e w' ⟨v,ι',H',nx',a,h3,h4,h5,h6,h7⟩=>?_
 obtain⟨hl,hr⟩:=h4.rel.sub (fun r q o h=>zGc h) (fun r o h=>h4.rel.dom r o (zDr h));exact⟨v,ι',_,nx',a,h3,⟨h4.ext,h4.inj,hr,fun b hb=>h4.lv b (hl b hb)⟩,h5,h6.anti fun b hb=>hb.elim .inl fun hb=>.inr (hl b hb),h7⟩
def zzm (P:Program) (qf:FuncId→Nat→List Nat) (orc:zbA) (ex:Nat→(Nat→List Nat)→Code→Kn→AH→Nat→Option Out):zbA:=fun f args H nx =>
 match orc f args H nx with
 | some r=>some r
 |
  none=>match P.funcs[f]? with
  |
   some fn=>match fn.body with
   |
    some c=>match fn.results.toList.mapM (cret P) with
    |
     some rs=>bif Wg args.length fn.ntmps then
      match ex fn.ntmps (qf f) c (zj0 0 args) H nx with
      |
       some (e,K,H',nx')=>match e with
       | .exit _=>none
       | .goto _=>none
       | _=>bif retS K H' rs then some (zh7 (zaE K H' nx' rs),gcH nx (zh7 (zaE K H' nx' rs)) H' nx',nx') else none
      | none=>none
     else none
    | none=>none
   | none=>none
  | none=>none
def zpY:Nat→Kn→Kn
 | _,[]=>[]
 | m,(j,v)::t=>bif We m j then (j,v)::zpY (Nat.xor m (Ww 1 j)) t else zpY m t
theorem zFl {m j i:Nat}:We (Nat.xor m (Ww 1 j)) i=(We m i ^^ Wa j i):=by
 have h:Ww 1 j=2 ^ j:=by show 1 <<< j=2 ^ j;rw[Nat.shiftLeft_eq,Nat.one_mul]
 rw[h];have h2:Nat.xor m (2 ^ j)=m ^^^ 2 ^ j:=rfl;rw[h2,Nat.testBit_xor,Nat.testBit_two_pow]
 congr 1
 cases hb:Wa j i with
 | true=>exact decide_eq_true (zl hb)
 | false=>exact decide_eq_false fun e=>by rw[e,zaG] at hb;cases hb
theorem zqd:∀(K:Kn) (m:Nat) (i:Nat),(zpY m K).get i=bif We m i then K.get i else .undef
 | [],m,i=>by simp only[zpY,Kn.get];cases We m i<;>rfl
 |
  (j,v)::t,m,i=>by
  unfold zpY
  cases hj:We m j with
  |
   true =>
   simp only[cond_true,Kn.get]
   cases hji:Wa j i with
   |
    true =>
    rw[←zl hji,hj];rfl
   |
    false =>
    simp only[cond_false];rw[zqd t,zFl,hji,Bool.xor_false]
  |
   false =>
   simp only[cond_false,Kn.get];rw[zqd t]
   cases hji:Wa j i with
   | true=>rw[←zl hji,hj];rfl
   | false=>rfl
def zGk:List Nat→Nat
 | m::_=>m
 | []=>0
def outR (r:ORes):AV × AH × Nat:=(r.v,r.H,r.nx)
def zGR (P:Program) (call:zbA) (op:AOp) (ρ:Nat→AV) (H:AH) (nx:Nat):Option (AV × AH × Nat) :=
 match op with
 | .mov x=>some (ev ρ x,H,nx)
 | .load g n p=>bif zB8 n (ev ρ p) H then some (outR (zcP g n (ev ρ p) H nx)) else none
 | .store n p v=>bif zyB n (ev ρ p) (ev ρ v) H then some (outR (zd9 n (ev ρ p) (ev ρ v) H nx)) else none
 | .idx sz x i=>bif idxS sz (ev ρ x) (ev ρ i) H then some (outR (idxR sz (ev ρ x) (ev ρ i) H nx)) else none
 | .fldaddr off n x=>bif zto off n (ev ρ x) then some (outR (zbS off n (ev ρ x) H nx)) else none
 | .fld off n g x=>bif fldS off n (ev ρ x) then some (outR (fldR off n g (ev ρ x) H nx)) else none
 | .len x=>bif lenS (ev ρ x) then some (outR (lenR (ev ρ x) H nx)) else none
 | .bin o x y=>bif binS o (ev ρ x) (ev ρ y) then some (outR (binI o (ev ρ x) (ev ρ y) H nx)) else none
 | .un o x=>bif unS o (ev ρ x) then some (outR (unR o (ev ρ x) H nx)) else none
 | .pick c a b=>bif zGy (ev ρ c) then some (outR (zmZ (ev ρ c) (ev ρ a) (ev ρ b) H nx)) else none
 | .append sz bytes x y=>bif zsG sz bytes (ev ρ x) (ev ρ y) H then some (outR (zdp sz bytes (ev ρ x) (ev ρ y) H nx)) else none
 | .ext i x=>bif extS i (ev ρ x) then some (outR (extR i (ev ρ x) H nx)) else none
 | op=>zqx P call op ρ H nx
theorem zD5 {P:Program} {call:zbA} {op:AOp} {ρ:Nat→AV} {H:AH} {nx:Nat}:zGR P call op ρ H nx=zqx P call op ρ H nx:=by
 cases op<;>rfl
def valS (P:Program) (call:zbA) (o:AOper) (ρ:Nat→AV) (H:AH) (nx:Nat):Option (AV × AH × Nat) :=
 match o.guard with
 | none=>zGR P call o.op ρ H nx
 |
  some (t,want)=>match grd want (ρ t) with
  | some true=>zGR P call o.op ρ H nx
  | some false=>some (.tup [],H,nx)
  | none=>none
theorem zGd {P:Program} {call:zbA} {o:AOper} {ρ:Nat→AV} {H:AH} {nx:Nat}:valS P call o ρ H nx=valX P call o ρ H nx:=by
 unfold valS valX
 simp only[zD5]<;>rcases o.guard with _ | ⟨t,want⟩<;>first|rfl | (rcases hg:grd want (ρ t) with _ | (_|_)<;>simp only[hg])
def zC4 (K:Kn):Option Nat→AV→Kn
 | none,_=>K
 | some d,v=>(d,v)::K
theorem zqu {K1 K:Kn} (h:K.get=K1.get) (d:Option Nat) (v:AV):(setO K d v).get=(zC4 K1 d v).get:=by
 cases d with
 | none=>exact h
 |
  some d =>
  funext i
  simp only[setO,zC4,Kn.get_set,Kn.get]
  by_cases hi:i=d
  · rw[if_pos hi,hi,zaG];rfl
  · rw[if_neg hi,zbJ (Ne.symm hi),h];rfl
def opsP (P:Program) (call:zbA):List AOper→Kn→AH→Nat→Option St3
 | [],K,H,nx=>some (K,H,nx)
 |
  o::os,K,H,nx=>match valS P call o K.get H nx with
  | some (v,H',nx')=>opsP P call os (zC4 K o.dst v) H' nx'
  | none=>none
def zzw (P:Program) (call:zbA):DTree→Kn→AH→Nat→Option St3
 | .done,K,H,nx=>some (K,H,nx)
 | .stop,_,_,_=>none
 |
  .step o t,K,H,nx=>match valS P call o K.get H nx with
  | some (v,H',nx')=>zzw P call t (zC4 K o.dst v) H' nx'
  | none=>none
 |
  .alt o t .stop,K,H,nx=>match valS P call o K.get H nx with
  | some (v,H',nx')=>zzw P call t (zC4 K o.dst v) H' nx'
  | none=>none
 | .alt _ _ _,_,_,_=>none
theorem zsD {call:zbA} {o:AOper} {K K1:Kn} (hk:K.get=K1.get) {H:AH} {nx:Nat} {v:AV} {H':AH} {nx':Nat} (h:valS P call o K1.get H nx=some (v,H',nx')):oneX P call o K H nx=some (setO K o.dst v,H',nx'):=by
 rw[zGd] at h;unfold valX at h;unfold oneX;rw[hk]
 cases hg:o.guard with
 |
  none =>
  rw[hg] at h;simp only at h ⊢;rw[h]
 |
  some p =>
  obtain⟨t,want⟩:=p;rw[hg] at h;simp only at h ⊢;split at h
  · rename_i e;simp only[e,h]
  · rename_i e;cases h;simp only[e]
  · cases h
theorem zCy {call:zbA}:∀ {os:List AOper} {K1 K:Kn} {H:AH} {nx:Nat} {r:St3},opsP P call os K1 H nx=some r→K.get=K1.get→∃K',zDb P call os K H nx=some (K',r.2)∧K'.get=r.1.get
 |
  [],K1,K,H,nx,r,h,hk=>by
  cases h;exact⟨K,rfl,hk⟩
 |
  o::os,K1,K,H,nx,r,h,hk=>by
  simp only[opsP] at h;split at h
  · rename_i v H' nx' e;obtain⟨K',h1,h2⟩:=zCy h (zqu hk o.dst v);refine⟨K',?_,h2⟩;simp only[zDb,zsD hk e];exact h1
  · cases h
theorem ztg {call:zbA}:∀ {t:DTree} {K1 K:Kn} {H:AH} {nx:Nat} {r:St3},zzw P call t K1 H nx=some r→K.get=K1.get→∃K',zn8 P call t K H nx=some (K',r.2)∧K'.get=r.1.get
 |
  .done,K1,K,H,nx,r,h,hk=>by
  cases h;exact⟨K,rfl,hk⟩
 | .stop,_,_,_,_,_,h,_=>by cases h
 |
  .step o t,K1,K,H,nx,r,h,hk=>by
  simp only[zzw] at h;split at h
  · rename_i v H' nx' e;obtain⟨K',h1,h2⟩:=ztg h (zqu hk o.dst v);refine⟨K',?_,h2⟩;simp only[zn8,zsD hk e];exact h1
  · cases h
 |
  .alt o t .stop,K1,K,H,nx,r,h,hk=>by
  simp only[zzw] at h;split at h
  · rename_i v H' nx' e;obtain⟨K',h1,h2⟩:=ztg h (zqu hk o.dst v);refine⟨K',?_,h2⟩;simp only[zn8,zsD hk e];exact h1
  · cases h
 | .alt _ _ .done,_,_,_,_,_,h,_=>by cases h
 | .alt _ _ (.step _ _),_,_,_,_,_,h,_=>by cases h
 | .alt _ _ (.alt _ _ _),_,_,_,_,_,h,_=>by cases h
def outK (l:Nat):Option St3→Option Out
 | some (K,H,nx)=>some (.normal,zpY l K,H,nx)
 | none=>none
def regX (P:Program) (call:zbA) (nt:Nat) (q:Nat→List Nat) (id:Nat) (ops:Array Oper) (draw:Bool) (K:Kn) (H:AH) (nx:Nat):Option Out :=
 match ops.toList.mapM (zBm P nt ops) with
 | none=>none
 |
  some as'=>bif draw then
   (bif P.follows .mixedOrders&&(Wj ops.size).all (fun j=>((ops.toList.map zcW).getD j []).all fun i=>Wb i j) then
    match zzw P call (ze4 ((zeB (q id) 0 as').map (AOper.ro (q 999999))) (ops.toList.map zcW) ops.size (Wi ops.size false)) K H nx with
    | some r=>outK (zGk (q 999998)) (some r)
    | none=>outK (zGk (q 999998)) (zGU P call ((zeB (q id) 0 as').map (AOper.ro (q 999999))) (ops.toList.map zcW) K H nx)
   else none)
  else outK (zGk (q 999998)) (opsP P call (as'.map (AOper.ro (q 999999))) K H nx)
def zEG (l:Nat) (ex:Kn→AH→Nat→Option Out):Nat→Option Out→Option Out
 | 0,_=>none
 |
  m+1,r=>match r with
  | some (.goto l',K,H,nx)=>bif Wa l' l then zEG l ex m (ex K H nx) else none
  | r=>r
def zfg (P:Program) (qf:FuncId→Nat→List Nat) (orc:zbA):Nat→Nat→(Nat→List Nat)→Code→Kn→AH→Nat→Option Out
 | 0,_,_,_,_,_,_=>none
 |
  n+1,nt,q,c,K,H,nx=>match c with
  | .skip=>some (.normal,K,H,nx)
  | .region id ops draw=>regX P (zzm P qf orc (zfg P qf orc n)) nt q id ops draw K H nx
  |
   .seq a b=>match zfg P qf orc n nt q a K H nx with
   | some (.normal,K',H',nx')=>zfg P qf orc n nt q b K' H' nx'
   | r=>r
  |
   .cond c a b=>match copd c with
   |
    some x=>match ev K.get x with
    | .bool true=>zfg P qf orc n nt q a K H nx
    | .bool false=>zfg P qf orc n nt q b K H nx
    | _=>none
   | none=>none
  |
   .block id c=>match zfg P qf orc n nt q c K H nx with
   | some (.exit j,K',H',nx')=>bif Wa j id then some (.normal,K',H',nx') else some (.exit j,K',H',nx')
   | r=>r
  |
   .loop c=>match zfg P qf orc n nt q c K H nx with
   | some (.normal,K',H',nx')=>zfg P qf orc n nt q (.loop c) K' H' nx'
   | r=>r
  | .exit id=>some (.exit id,K,H,nx)
  | .ret=>some (.ret,K,H,nx)
  |
   .scope c=>match zfg P qf orc n nt q c K H nx with
   |
    some (.goto l,K',H',nx')=>match findLabel c l with
    | some rest=>zEG l (zfg P qf orc n nt q rest) n (zfg P qf orc n nt q rest K' H' nx')
    | none=>none
   | r=>r
  | .label _=>some (.normal,K,H,nx)
  | .goto l=>some (.goto l,K,H,nx)
  | _=>none
variable {qf:FuncId→Nat→List Nat} {orc:zbA}
def RunC (P:Program) (qf:FuncId→Nat→List Nat) (orc:zbA) (n:Nat):Prop :=
 ∀(nt:Nat) (L:Nat→Prop) (w0:World) (ι0:Inj) (H0:AH) (B:Nat),RelH w0 L ι0 H0 B→∀(q:Nat→List Nat) (c:Code) (w:World) (ι:Inj) (K:Kn) (H:AH) (nx:Nat) (a:Act) (r:Out),
  In nt w0 L ι0 H0 B w ι K.get H nx a→zfg P qf orc n nt q c K H nx=some r→c.wp P (QQ nt w0 L ι0 H0 B (QX r)) a w
def zyh (P:Program) (qf:FuncId→Nat→List Nat) (orc:zbA) (n:Nat):Prop :=
 ∀(nt:Nat) (L:Nat→Prop) (w0:World) (ι0:Inj) (H0:AH) (B:Nat),RelH w0 L ι0 H0 B→∀(q:Nat→List Nat) (c:Code) (w:World) (ι:Inj) (K:Kn) (H:AH) (nx:Nat) (a:Act) (r:Out),
  In nt w0 L ι0 H0 B w ι K.get H nx a→zfg P qf orc n nt q (.loop c) K H nx=some r→Code.rounds P c (QQ nt w0 L ι0 H0 B (QX r)) n a w
theorem zG2 {f:FuncId} {fn:Func} {c:Code} {rs:List ARet} (hf:P.funcs[f]? = some fn) (hb:fn.body=some c) (hr:fn.results.toList.mapM (cret P)=some rs) {args:List AV} {H:AH} {nx:Nat} {Post:AV→AH→Nat→Prop} (hn:args.length≤fn.ntmps)
  (h:∀(w:World) (L:Nat→Prop) (ι:Inj) (a:Act),RelH w L ι H nx→In fn.ntmps w L ι H nx w ι (zj0 0 args).get H nx a→c.wp P (QQ fn.ntmps w L ι H nx (retK rs Post)) a w):zab P f args H nx Post:=by
 intro w L ι vs rel hv
 have hlen:vs.size=args.length:=by simpa using hv.length
 refine calls_of_wp hf hb ?_
 have hin:In fn.ntmps w L ι H nx w ι (zj0 0 args).get H nx { tmps:=vs++Array.replicate (fn.ntmps - vs.size) undef,defers:=[] }:=by
  refine⟨by simp;omega,rfl,.refl rel,Nat.le_refl _,fun i=>?_⟩;rw[zqy,if_pos (Nat.zero_le _),Nat.sub_zero]
  rcases Nat.lt_or_ge i args.length with hi|hi
  ·
   have h1:i < vs.size:=by omega
   refine hv.get i _ _ ?_ (by simp[List.getD,Wr hi]);simp[Array.getD_eq_getD_getElem?,Array.getElem?_append,h1]
  · rw[show args.getD i .undef=.undef by simp[List.getD,Wt hi]];exact .undef _ _
 refine wp_mono (h w L ι _ rel hin) fun e a' w' ⟨ι',K,H',nx',hin',hq⟩=>?_
 have fin:zbk K H' nx' rs∧Post (zh7 (zaE K H' nx' rs)) H' nx'→a'.defers=[]∧∃v,(results fn a'.tmps).run P w'=.ok v w'∧∃v_1 ι' H' nx' a,Ending.returned v=.returned v_1∧Step w L ι H nx w' ι' H' nx'∧nx≤nx'∧VR w' (Lt L ι' H') ι' v_1 a∧Post a H' nx':=by intro ⟨h1,h2⟩;obtain⟨us,h3,h4⟩:=zxT hin'.st.rel hin'.kn _ _ hr h1;obtain⟨v,h5,h6⟩:=zsh h3 h4;exact⟨hin'.defers,v,h5,v,ι',H',nx',_,rfl,hin'.st,hin'.le,h6,h2⟩
 cases e with
 | normal=>exact fin hq
 | ret=>exact fin hq
 | exit id=>exact hq.elim
 | _=>exact hq.elim
theorem zql (ho:orc.Sound P) {n:Nat} (hr:RunC P qf orc n):(zzm P qf orc (zfg P qf orc n)).Sound P:=by
 intro f args H nx r h;unfold zzm at h;split at h
 · rename_i r' e;cases h;exact ho f args H nx _ e
 ·
  split at h
  ·
   rename_i fn hf;split at h
   ·
    rename_i c hb;split at h
    ·
     rename_i rs hrs
     cases hble:Wg args.length fn.ntmps with
     | false=>rw[hble] at h;cases h
     |
      true =>
      rw[hble] at h;simp only[cond_true] at h;split at h
      ·
       rename_i e K H' nx' he
       have key:(∀id,e≠.exit id)→(∀l,e≠.goto l)→(bif retS K H' rs then some (zh7 (zaE K H' nx' rs),gcH nx (zh7 (zaE K H' nx' rs)) H' nx',nx') else none)=some r→zab P f args H nx (fun v H' nx'=>(v,H',nx')=r):=by
        intro hne hng h
        cases hs:retS K H' rs with
        | false=>rw[hs] at h;cases h
        |
         true =>
         rw[hs] at h;simp only[cond_true,WI] at h;subst h;refine zFV (zG2 hf hb hrs (bleT hble) fun w L ι a rel hin=>?_)
         refine wp_mono (hr fn.ntmps L w ι H nx rel (qf f) c w ι _ H nx a _ hin he) fun e' a' w' ⟨ι',K',H2,nx2,hin',hq⟩=>⟨ι',K',H2,nx2,hin',?_⟩
         have hk:retK rs (fun v H'' nx''=>(v,gcH nx v H'' nx'',nx'')=(zh7 (zaE K H' nx' rs),gcH nx (zh7 (zaE K H' nx' rs)) H' nx',nx')) e K H' nx':=by
          cases e with
          | exit id=>exact absurd rfl (hne id)
          | goto l=>exact absurd rfl (hng l)
          | normal=>exact⟨zta hs,rfl⟩
          | ret=>exact⟨zta hs,rfl⟩
         cases e' with
         | normal=>cases hq;exact hk
         | exit id=>cases hq;exact absurd rfl (hne id)
         | ret=>cases hq;exact hk
         | goto l=>cases hq;exact absurd rfl (hng l)
         | _=>exact hq.elim
       cases e with
       | exit id=>cases h
       | goto l=>cases h
       | normal=>exact key (by intro id e;cases e) (by intro id e;cases e) h
       | ret=>exact key (by intro id e;cases e) (by intro id e;cases e) h
      · cases h
    · cases h
   · cases h
  · cases h
theorem Kn.drop_nil:∀K:Kn,K.drop []=K
 | []=>rfl
 |
  (j,v)::t=>by
  show (j,v)::Kn.drop t []=(j,v)::t;rw[Kn.drop_nil t]
theorem zwa {l:Nat} {r:Option St3} {o:Out} (h:outK l r=some o):∃s,r=some s∧o=(.normal,zpY l s.1,s.2.1,s.2.2):=by
 cases r with
 | none=>cases h
 | some s=>obtain⟨K,H,nx⟩:=s;cases h;exact⟨_,rfl,rfl⟩
theorem In.less {nt:Nat} {w0:World} {L:Nat→Prop} {ι0:Inj} {H0:AH} {B:Nat} {w:World} {ι:Inj} {ρ ρ2:Nat→AV} {H:AH} {nx:Nat} {a:Act} (h:In nt w0 L ι0 H0 B w ι ρ H nx a) (hr:∀i,ρ2 i=.undef∨ρ2 i=ρ i):In nt w0 L ι0 H0 B w ι ρ2 H nx a :=
 ⟨h.size,h.defers,h.st,h.le,fun i=>by rcases hr i with e|e<;>rw[e];exact .undef _ _;exact h.kn i⟩
theorem zzL {l:Nat} {K K':Kn} (h:K'.get=K.get) (i:Nat):(zpY l K).get i=.undef∨(zpY l K).get i=K'.get i:=by
 rw[zqd,h];cases We l i
 · exact .inl rfl
 · exact .inr rfl
theorem zwz {c:Code} {nt:Nat} {w0:World} {L:Nat→Prop} {ι0:Inj} {H0:AH} {B:Nat} {l:Nat} {K K':Kn} {H:AH} {nx:Nat} {a:Act} {w:World} (hk:K'.get=K.get)
  (h:c.wp P (QQ nt w0 L ι0 H0 B (QX (.normal,K',H,nx))) a w):c.wp P (QQ nt w0 L ι0 H0 B (QX (.normal,zpY l K,H,nx))) a w:=by
 refine wp_mono h fun e' a' w' ⟨ι',K1,H1,nx1,hin',hq⟩=>?_
 cases e' with
 | normal=>cases hq;exact⟨ι',zpY l K,_,_,hin'.less (zzL hk),rfl⟩
 | exit id=>cases hq
 | ret=>cases hq
 | goto l=>cases hq
 | _=>exact hq.elim
theorem zGI {call:zbA} (hs:call.Sound P) {nt:Nat} {w0:World} {L:Nat→Prop} {ι0:Inj} {H0:AH} {B:Nat} (base:RelH w0 L ι0 H0 B) {q:Nat→List Nat} {id:Nat} {ops:Array Oper} {draw:Bool} {K:Kn} {H:AH} {nx:Nat} {w:World} {ι:Inj} {a:Act} {r:Out}
  (hin:In nt w0 L ι0 H0 B w ι K.get H nx a) (h:regX P call nt q id ops draw K H nx=some r):(Code.region id ops draw).wp P (QQ nt w0 L ι0 H0 B (QX r)) a w:=by
 unfold regX at h;split at h
 · cases h
 ·
  rename_i as' hm;obtain⟨h1,h2⟩:=ztn hm
  cases draw with
  |
   false =>
   simp only[cond_false] at h;obtain⟨s,e0,rfl⟩:=zwa h;obtain⟨K',e,hk⟩:=zCy e0 rfl;refine zwz hk ?_;refine wp_region_list (zno _ _ (by simpa using h1) (fun i o ao h3 h4=>?_) hin (zyb (drop:=[]) hs e ?_))
   · rw[WD] at h4;obtain⟨b,h5,rfl⟩:=Wp.1 h4;exact(h2 i o b h3 h5).ro
   · have:K'.drop []=K':=Kn.drop_nil _;rw[this];rfl
  |
   true =>
   simp only[cond_true] at h;generalize hg:(P.follows .mixedOrders&&_)=b at h
   cases b with
   | false=>cases h
   |
    true =>
    simp only[Wd] at hg;simp only[cond_true] at h
    have hlen:((zeB (q id) 0 as').map (AOper.ro (q 999999))).length=ops.size:=by rw[WE,zhx,h1];simp
    have hrel:∀(i:Nat) (o:Oper) (ao:AOper),ops.toList[i]? = some o→((zeB (q id) 0 as').map (AOper.ro (q 999999)))[i]? = some ao→OpRel P nt ops o ao:=fun i o ao h3 h4=>by
     rw[WD] at h4;obtain⟨b0,h40,rfl⟩:=Wp.1 h4;obtain⟨b,h5,h6⟩:=zlD _ _ _ _ _ h40
     rcases h6 with rfl|rfl
     · exact(h2 i o _ h3 h5).ro
     · exact(h2 i o _ h3 h5).quiet.ro
    split at h
    · rename_i s e0;obtain⟨s2,e',rfl⟩:=zwa h;cases e';obtain⟨K',e,hk⟩:=ztg e0 rfl;refine zwz hk ?_;refine zrW nt w0 L ι0 H0 B id ops _ [] _ hlen hrel hg.1 hg.2 w ι K H nx a hin (zqb hs e ?_);rw[Kn.drop_nil];rfl
    · obtain⟨s,e,rfl⟩:=zwa h;exact zwz rfl (zFB hs base hlen hrel hg.1 hin e rfl)
theorem zCt (ho:orc.Sound P):∀n,RunC P qf orc n∧zyh P qf orc n
 | 0=>⟨fun _ _ _ _ _ _ _ _ _ _ _ _ _ _ _ _ _ h=>(by cases h),fun _ _ _ _ _ _ _ _ _ _ _ _ _ _ _ _ _ h=>(by cases h)⟩
 |
  n+1=>by
  obtain⟨ihR,ihL⟩:=zCt ho n;have hcall:=zql ho ihR
  have loopStep:zyh P qf orc (n+1):=by
   intro nt L w0 ι0 H0 B base q c w ι K H nx a r hin h;rw[rounds_succ];simp only[zfg] at h;split at h
   ·
    rename_i K' H' nx' e
    refine wp_mono (ihR nt L w0 ι0 H0 B base q c w ι K H nx a _ hin e) fun e' a' w' ⟨ι',K1,H1,nx1,hin',hq⟩=>?_
    cases e' with
    | normal=>cases hq;exact ihL nt L w0 ι0 H0 B base q c w' ι' _ _ _ a' r hin' h
    | exit id=>cases hq
    | ret=>cases hq
    | goto l=>cases hq
    | _=>exact hq.elim
   ·
    rename_i r' hne
    refine wp_mono (ihR nt L w0 ι0 H0 B base q c w ι K H nx a r hin h) fun e' a' w' ⟨ι',K1,H1,nx1,hin',hq⟩=>?_
    cases e' with
    | normal=>cases hq;exact absurd h (hne K1 H1 nx1)
    | exit id=>exact⟨ι',K1,H1,nx1,hin',hq⟩
    | ret=>exact⟨ι',K1,H1,nx1,hin',hq⟩
    | goto l=>exact⟨ι',K1,H1,nx1,hin',hq⟩
    | _=>exact hq.elim
  refine⟨?_,loopStep⟩;intro nt L w0 ι0 H0 B base q c w ι K H nx a r hin h
  cases c with
  | skip=>cases h;exact wp_skip ⟨ι,K,H,nx,hin,rfl⟩
  | label l=>cases h;exact wp_label ⟨ι,K,H,nx,hin,rfl⟩
  | goto l=>cases h;exact wp_goto ⟨ι,K,H,nx,hin,rfl⟩
  | exit id=>cases h;exact wp_exit ⟨ι,K,H,nx,hin,rfl⟩
  | ret=>cases h;exact wp_ret ⟨ι,K,H,nx,hin,rfl⟩
  | region id ops draw=>exact zGI hcall base hin h
  |
   seq c1 c2 =>
   simp only[zfg] at h;split at h
   ·
    rename_i K' H' nx' e;refine wp_seq (wp_mono (ihR nt L w0 ι0 H0 B base q c1 w ι K H nx a _ hin e) fun e' a' w' ⟨ι',K1,H1,nx1,hin',hq⟩=>?_)
    cases e' with
    | normal=>cases hq;exact ihR nt L w0 ι0 H0 B base q c2 w' ι' _ _ _ a' r hin' h
    | exit id=>cases hq
    | ret=>cases hq
    | goto l=>cases hq
    | _=>exact hq.elim
   ·
    rename_i r' hne;refine wp_seq (wp_mono (ihR nt L w0 ι0 H0 B base q c1 w ι K H nx a r hin h) fun e' a' w' ⟨ι',K1,H1,nx1,hin',hq⟩=>?_)
    cases e' with
    | normal=>cases hq;exact absurd h (hne K1 H1 nx1)
    | exit id=>exact⟨ι',K1,H1,nx1,hin',hq⟩
    | ret=>exact⟨ι',K1,H1,nx1,hin',hq⟩
    | goto l=>exact⟨ι',K1,H1,nx1,hin',hq⟩
    | _=>exact hq.elim
  |
   cond x1 c1 c2 =>
   simp only[zfg] at h;split at h
   ·
    rename_i x' hx;have hv:=zz hin.kn hx;split at h
    · rename_i hev;rw[hev] at hv;generalize hu:a.eval x1=u at hv;cases hv;exact wp_cond_true hu (ihR nt L w0 ι0 H0 B base q c1 w ι K H nx a r hin h)
    · rename_i hev;rw[hev] at hv;generalize hu:a.eval x1=u at hv;cases hv;exact wp_cond_false hu (ihR nt L w0 ι0 H0 B base q c2 w ι K H nx a r hin h)
    · cases h
   · cases h
  |
   block id c1 =>
   simp only[zfg] at h;split at h
   ·
    rename_i j K' H' nx' e;refine wp_block (wp_mono (ihR nt L w0 ι0 H0 B base q c1 w ι K H nx a _ hin e) fun e' a' w' ⟨ι',K1,H1,nx1,hin',hq⟩=>?_)
    cases e' with
    | normal=>cases hq
    |
     exit j' =>
     cases hq;simp only[Exit.inBlock]
     by_cases hj:j=id
     · subst hj;rw[if_pos rfl];rw[zaG] at h;cases h;exact⟨ι',_,_,_,hin',rfl⟩
     · rw[if_neg hj];rw[zbJ hj] at h;cases h;exact⟨ι',_,_,_,hin',rfl⟩
    | ret=>cases hq
    | goto l=>cases hq
    | _=>exact hq.elim
   ·
    rename_i r' hne;refine wp_block (wp_mono (ihR nt L w0 ι0 H0 B base q c1 w ι K H nx a r hin h) fun e' a' w' ⟨ι',K1,H1,nx1,hin',hq⟩=>?_)
    cases e' with
    | normal=>exact⟨ι',K1,H1,nx1,hin',hq⟩
    | exit j'=>cases hq;exact absurd h (hne j' K1 H1 nx1)
    | ret=>exact⟨ι',K1,H1,nx1,hin',hq⟩
    | goto l=>exact⟨ι',K1,H1,nx1,hin',hq⟩
    | _=>exact hq.elim
  | loop c1=>exact wp_loop_rounds (n+1) (loopStep nt L w0 ι0 H0 B base q c1 w ι K H nx a r hin h)
  |
   scope c1 =>
   simp only[zfg] at h;split at h
   ·
    rename_i l K' H' nx' e;split at h
    ·
     rename_i rest hrest
     let G:Nat→Act→World→Prop:=fun m a w=>∃ι K H nx,In nt w0 L ι0 H0 B w ι (Kn.get K) H nx a∧zEG l (zfg P qf orc n nt q rest) m (zfg P qf orc n nt q rest K H nx)=some r
     have jm:∀ {Q:Exit→Act→World→Prop} {J J':Act→World→Prop} {cz:Code} {a:Act} {w:World},(∀a w,J a w→J' a w)→cz.wp P (Exit.jump l J Q) a w→cz.wp P (Exit.jump l J' Q) a w:=by
      intro Q J J' cz a w hJ h
      refine wp_mono h fun e' a' w' hq=>?_
      cases e' with
      | goto l'=>exact⟨hq.1,hJ _ _ hq.2⟩
      | _=>exact hq
     refine wp_scope_jumps l (fun a w=>∃m,G m a w) (ziE G) hrest ?_ ?_
     ·
      refine wp_mono (ihR nt L w0 ι0 H0 B base q c1 w ι K H nx a _ hin e) fun e' a' w' ⟨ι',K1,H1,nx1,hin',hq⟩=>?_
      cases e' with
      | goto l'=>cases hq;exact⟨rfl,n,ι',_,_,_,hin',h⟩
      | normal=>cases hq
      | exit id=>cases hq
      | ret=>cases hq
      | _=>exact hq.elim
     ·
      intro a' w' hJ;obtain⟨ι',K1,H1,nx1,hin',hex⟩:=zoa hJ
      cases hm0:ziE G a' w' with
      | zero=>rw[hm0] at hex;cases hex
      |
       succ m =>
       rw[hm0] at hex
       cases hz:zfg P qf orc n nt q rest K1 H1 nx1 with
       | none=>rw[hz] at hex;cases hex
       |
        some o =>
        obtain⟨e1,K2,H2,nx2⟩:=o;refine jm (fun a2 w2 (h:G m a2 w2)=>⟨⟨_,h⟩,Nat.lt_succ_of_le (zrs h)⟩) (wp_mono (ihR nt L w0 ι0 H0 B base q rest w' ι' K1 H1 nx1 a' _ hin' hz) fun e' a2 w2 ⟨ι2,K3,H3,nx3,hin2,hq⟩=>?_);rw[hz] at hex
        cases e' with
        |
         goto l' =>
         cases hq;simp only[zEG] at hex
         cases hb:Wa l' l with
         | false=>rw[hb] at hex;cases hex
         |
          true =>
          rw[hb] at hex;exact⟨zl hb,ι2,_,_,_,hin2,hex⟩
        | normal=>cases hq;cases hex;exact⟨ι2,_,_,_,hin2,rfl⟩
        | exit id=>cases hq;cases hex;exact⟨ι2,_,_,_,hin2,rfl⟩
        | ret=>cases hq;cases hex;exact⟨ι2,_,_,_,hin2,rfl⟩
        | _=>exact hq.elim
    · cases h
   ·
    rename_i r' hne;refine wp_scope_straight (wp_mono (ihR nt L w0 ι0 H0 B base q c1 w ι K H nx a r hin h) fun e' a' w' ⟨ι',K1,H1,nx1,hin',hq⟩=>?_)
    cases e' with
    | normal=>exact⟨ι',K1,H1,nx1,hin',hq⟩
    | exit id=>exact⟨ι',K1,H1,nx1,hin',hq⟩
    | ret=>exact⟨ι',K1,H1,nx1,hin',hq⟩
    | goto l=>cases hq;exact absurd h (hne l K1 H1 nx1)
    | _=>exact hq.elim
  | _=>cases h
theorem zsm (ho:orc.Sound P) (n:Nat) {f:FuncId} {args:List AV} {H:AH} {nx:Nat} {r:AV × AH × Nat} (h:zzm P qf orc (zfg P qf orc n) f args H nx=some r):zab P f args H nx (fun v H' nx'=>(v,H',nx')=r) :=
 zql ho (zCt ho n).1 f args H nx r h
def zCO (b:Bool):Option (AV × AH × Nat)→Bool
 | some (.bool c,_,_)=>c == b
 | _=>false
theorem zy7 (ho:orc.Sound P) (n:Nat) {f:FuncId} {args:List AV} {b:Bool} (h:zCO b (zzm P qf orc (zfg P qf orc n) f args [] 0)=true):zu P f args (·=.bool b):=by
 unfold zCO at h;split at h
 ·
  rename_i c H' nx' e
  have hb:c=b:=by simpa using h
  subst hb
  exact(zsm ho n e).mono fun v H1 nx1 he=>by cases he;exact⟨_,.bool _ _,rfl⟩
 · cases h
def qEx:List (Nat × List Nat)→Nat→List Nat
 | [],_=>Wj 150
 | (j,l)::t,i=>bif Wa j i then (Wj 150).filter (fun x => !memN l x) else qEx t i
def zGi:List (Nat × List Nat × List Nat × List (Nat × List Nat))→FuncId→Nat→List Nat
 | [],_=>qAll
 | (g,ro,kp,ex)::t,f=>bif Wa g f then (fun id=>bif Wa id 999999 then ro else bif Wa id 999998 then kp else qEx ex id) else zGi t f
end
def frB (m:Bool) (H:AH):Nat→AV→AV→Bool
 | 0,_,_=>false
 |
  d+1,b,a=>match a with
  | .undef=>true
  |
   .int k n=>match b with
   | .int k' n'=>decide (k'=k)&&decide (n'=n)
   | _=>false
  |
   .bool x=>match b with
   | .bool y=>y == x
   | _=>false
  |
   .str s=>match b with
   | .str t=>decide (t=s)
   | _=>false
  |
   .nilp=>match b with
   | .nilp=>true
   | _=>false
  |
   .nilfn=>match b with
   | .nilfn=>true
   | _=>false
  |
   .cut=>match b with
   | .cut=>true
   | _=>false
  |
   .nilsl=>match b with
   | .nilsl=>true
   | _=>false
  |
   .sl sz n f=>match b with
   | .sl sz' n' f'=>Wa sz' sz&&(Wa n' n&&allB n fun i=>allB sz fun j=>frB m H d (f' i j) (f i j))
   | .nilsl=>Wa n 0
   |
    .own r q g off n'=>m&&(match H.get r q with
    | some (.row sz' els g')=>Wa sz' sz&&(Wa n' n&&(Wa g g'&&(Wg n big&&(Wg (off+n) els.length&&allB n fun i=>allB sz fun j=>frB m H d ((els.getD (off+i) []).getD j .undef) (f i j)))))
    | _=>false)
   | _=>false
  |
   .agg l=>match b with
   | .agg l'=>Wa l'.length l.length&&allB l.length fun i=>frB m H d (l'.getD i .undef) (l.getD i .undef)
   | _=>false
  |
   .tup l=>match b with
   | .tup l'=>Wa l'.length l.length&&allB l.length fun i=>frB m H d (l'.getD i .undef) (l.getD i .undef)
   | _=>false
  | _=>false
theorem ztt {α:Type} {l:List α} {i:Nat} {a d:α} (h:l[i]? = some a):l.getD i d=a:=by rw[Wf,h];rfl
theorem zsw {H:AH} {m:Bool} {D:Nat→Nat→Prop} (hD:m=true→∀r q,D r q):∀(d:Nat) (b a:AV),frB m H d b a=true→Vw H [] nos D false b a
 | 0,_,_,h=>by cases h
 |
  d+1,b,a,h=>by
  unfold frB at h;split at h
  · exact .undef _ _
  ·
   split at h
   · simp only[Wd,decide_eq_true_eq] at h;obtain⟨rfl,rfl⟩:=h;exact .int _ _ _
   · cases h
  ·
   split at h
   · simp only[beq_iff_eq] at h;subst h;exact .bool _ _
   · cases h
  ·
   split at h
   · simp only[decide_eq_true_eq] at h;subst h;exact .str _ _
   · cases h
  ·
   split at h
   · exact .nilp _
   · cases h
  ·
   split at h
   · exact .nilfn _
   · cases h
  ·
   split at h
   · exact .cut _
   · cases h
  ·
   split at h
   · exact .nilsl _
   · cases h
  ·
   split at h
   ·
    rename_i sz' n' f';simp only[Wd] at h;obtain⟨h1,h2,h3⟩:=h;obtain rfl:=zl h1;obtain rfl:=zl h2
    exact .slf _ _ _ _ _ fun i j hi hj=>zsw hD d _ _ (za7 (za7 h3 hi) hj)
   · obtain rfl:=zl h;exact .nil0 _ _ _
   ·
    rename_i r q g off n';rw[Wd] at h;obtain⟨hm,h⟩:=h;split at h
    ·
     rename_i sz' els g' hg;simp only[Wd] at h;obtain⟨h1,h2,h3,h4,h5,h6⟩:=h;obtain rfl:=zl h1;obtain rfl:=zl h2;obtain rfl:=zl h3
     exact .frz _ r q g off n' sz' els _ (hD hm r q) hg (bleT h4) (bleT h5) fun i j hi hj=>zsw hD d _ _ (za7 (za7 h6 hi) hj)
    · cases h
   · cases h
  ·
   split at h
   ·
    rename_i l l';simp only[Wd] at h;obtain⟨h1,h2⟩:=h;have hl:=zl h1
    refine .agg _ _ _ hl fun i x y hx hy=>?_
    have:=za7 h2 (WM.1 hy).1;rw[ztt hx,ztt hy] at this;exact zsw hD d _ _ this
   · cases h
  ·
   split at h
   ·
    rename_i l l';simp only[Wd] at h;obtain⟨h1,h2⟩:=h;have hl:=zl h1
    refine .tup _ _ _ hl fun i x y hx hy=>?_
    have:=za7 h2 (WM.1 hy).1;rw[ztt hx,ztt hy] at this;exact zsw hD d _ _ this
   · cases h
  · cases h
def frBs (m:Bool) (H:AH):List AV→List AV→Bool
 | [],[]=>true
 | b::bs,a::asv=>frB m H 30 b a&&frBs m H bs asv
 | _,_=>false
theorem zvS {H:AH} {m:Bool} {D:Nat→Nat→Prop} (hD:m=true→∀r q,D r q):∀ {bs asv:List AV},frBs m H bs asv=true→Lend H D bs asv
 | [],[],_=>.nil
 |
  b::bs,a::asv,h=>by
  rw[frBs,Wd] at h;exact .cons (zsw hD 30 _ _ h.1) (zvS hD h.2)
 | [],_::_,h=>by cases h
 | _::_,[],h=>by cases h
structure Memo where
 f:FuncId
 args:List AV
 res:AV
def zGb:List Memo→zbA→zbA
 | [],orc,f,args,H,nx=>orc f args H nx
 | e::t,orc,f,args,H,nx=>bif Wa e.f f&&(bif e.res.scal then frBs true H args e.args else frBs false H args e.args) then some (e.res,H,nx) else zGb t orc f args H nx
theorem zp5 {P:Program} {orc:zbA} (ho:orc.Sound P):∀ {l:List Memo},(∀e∈l,zu P e.f e.args (·=e.res))→(zGb l orc).Sound P
 | [],_=>ho
 |
  e::t,hl=>by
  intro f args H nx r h;unfold zGb at h
  cases hb:Wa e.f f&&(bif e.res.scal then frBs true H args e.args else frBs false H args e.args) with
  | false=>rw[hb] at h;exact zp5 ho (fun e' h'=>hl e' (Wq _ h')) f args H nx r h
  |
   true =>
   rw[hb] at h;cases h;rw[Wd] at hb;obtain rfl:=zl hb.1;have hb2:=hb.2
   cases hs:e.res.scal with
   |
    true =>
    rw[hs] at hb2;exact(zbd (D:=allR) (hl e (by simp)) (zvS (fun _ _ _=>trivial) hb2) (.inl hs)).ok rfl
   |
    false =>
    rw[hs] at hb2;exact(zbd (D:=noR) (hl e (by simp)) (zvS (fun h=>by cases h) hb2) (.inr fun _ _ h=>h)).ok rfl
def isFrz (a:AV):Option (AV × AH × Nat)→Bool
 | some (v,H,_)=>frB true H 30 v a
 | none=>false
theorem zrX {P:Program} {qf:FuncId→Nat→List Nat} {orc:zbA} (ho:orc.Sound P) (n:Nat) {f:FuncId} {args:List AV} {a:AV} (h:isFrz a (zzm P qf orc (zfg P qf orc n) f args [] 0)=true):zu P f args (·=a):=by
 unfold isFrz at h;split at h
 ·
  rename_i v H' nx' e
  exact(zsm ho n e).mono fun v1 H1 nx1 he=>by cases he;exact⟨a,zsw (fun _ _ _=>trivial) 30 _ _ h,rfl⟩
 · cases h
def slL (sz:Nat) (l:List (List AV)):AV:=.sl sz l.length (fun i j=>(l.getD i []).getD j .undef)
def oN (d:Nat) (a:AOp):AOper:=⟨some d,a,none⟩
def oG (d t:Nat) (b:Bool) (a:AOp):AOper:=⟨some d,a,some (t,b)⟩
def oM (d s:Nat):AOper:=⟨some d,.mov (.t s),none⟩
def oK (d:Nat) (k:Int):AOper:=⟨some d,.mov (.c (.int .i64 k)),none⟩
def oL (d s:Nat):AOper:=⟨some d,.load false 1 (.t s),none⟩
def oA (d n s:Nat):AOper:=⟨some d,.load true n (.t s),none⟩
def oF (d f n s:Nat):AOper:=⟨some d,.fldaddr f n (.t s),none⟩
def oI (d n a b:Nat):AOper:=⟨some d,.idx n (.t a) (.t b),none⟩
def oE (d s:Nat):AOper:=⟨some d,.len (.t s),none⟩
def oX (d s:Nat):AOper:=⟨some d,.xop .nilck [.t s],none⟩
def oB (d:Nat) (o:BinOp) (a b:Nat):AOper:=⟨some d,.bin o (.t a) (.t b),none⟩
def oC (d:Nat) (o:BinOp) (a:Nat) (k:Int):AOper:=⟨some d,.bin o (.t a) (.c (.int .i64 k)),none⟩
def oS (n a b:Nat):AOper:=⟨none,.store n (.t a) (.t b),none⟩
def oT (d k s:Nat):AOper:=⟨some d,.ext k (.t s),none⟩
def Yaa:AOper:=oN 23 (.build [.int .u32 0,.nilsl] [(0,1,(.t 14)),(1,1,(.t 22))])
def Yab:AOper:=oS 2 9 23
def Yac:AOper:=oN 22 (.buildSl 8 2 [.int .i64 0,.int .i64 0,.int .i64 0,.int .i64 0,.int .i64 0,.int .u32 0,.nilsl,.nilsl] [(0,(.t 18)),(1,(.t 21))])
def Yad:AOper:=oN 9 (.alloc [.int .u32 0,.nilsl])
def Yae:AOper:=oN 14 (.bin .add (.t 13) (.c (.int .u32 1)))
def Yaf:AOper:=oN 1 (.rbox (.t 0))
def Yag:AOper:=oN 4 (.mov (.c (.bool false)))
def Yah:AOper:=oN 21 (.build [.int .i64 0,.int .i64 0,.int .i64 0,.int .i64 0,.int .i64 0,.int .u32 0,.nilsl,.nilsl] [(0,1,(.c (.int .i64 5))),(5,1,(.t 20))])
def Yai:AOper:=oN 2 (.mov (.c (.bool false)))
def Yaj:AOper:=oN 2 (.rbox (.t 0))
def Yak:AOper:=oN 36 (.build [.int .i64 0,.int .i64 0,.int .i64 0,.nilsl] [(0,1,(.t 27)),(1,1,(.t 31)),(2,1,(.t 35))])
def Yal:AOper:=oN 5 (.alloc [.int .i64 0,.int .i64 0,.int .i64 0,.nilsl])
def Yam:AOper:=oS 4 5 36
def Yan:AOper:=oN 2 (.mknil 1)
def Yao:AOper:=oN 6 (.mov (.c (.int .u32 0)))
def Yap:AOper:=oS 1 43 41
def Yaq:AOper:=oI 42 1 28 29
def Yar:AOper:=oI 43 1 30 31
def Yas:AOper:=oN 3 (.rbox (.t 0))
def Yat:AOper:=oN 4 (.mov (.c (.bool true)))
def Yau:AOper:=oN 4 (.mov (.c (.int .u32 0)))
def Yav:AOper:=oN 19 (.mksl 1 8 [.nilmp] (.t 18) (.t 18))
def Yaw:AOper:=oN 23 (.mksl 1 8 [.nilmp] (.t 22) (.t 22))
def Yax:AOper:=oN 51 (.buildSl 8 1 [.int .i64 0,.int .i64 0,.int .i64 0,.int .i64 0,.int .i64 0,.int .u32 0,.nilsl,.nilsl] [(0,(.t 50))])
def Yay:AOper:=oN 52 (.append 8 96 (.t 43) (.t 51))
def Yaz:AOper:=oN 49 (.buildSl 5 1 [.int .i64 0,.int .u32 0,.int .i64 0,.int .i64 0,.nilsl] [(0,(.t 48))])
def YaA:AOper:=oN 50 (.build [.int .i64 0,.int .i64 0,.int .i64 0,.int .i64 0,.int .i64 0,.int .u32 0,.nilsl,.nilsl] [(0,1,(.c (.int .i64 4))),(6,1,(.t 49))])
def YaB:AOper:=oN 5 (.alloc [.int .i64 0,.int .u32 0,.int .i64 0,.int .i64 0,.nilsl])
def YaC:AOper:=oN 169 (.buildSl 1 1 [.int .u32 0] [(0,(.t 168))])
theorem evD:type_of% @evA∧type_of% @boxR.eq_1∧type_of% @zrg.eq_1∧type_of% @zmf.eq_1∧type_of% @fldR.eq_1∧type_of% @binI.eq_1∧type_of% @binI.eq_2∧type_of% @binI.eq_3∧type_of% @binI.eq_4∧type_of% @binI.eq_5∧type_of% @binI.eq_6∧type_of% @binI.eq_7∧type_of% @binI.eq_8∧type_of% @binI.eq_9∧type_of% @binI.eq_10∧type_of% @binI.eq_11∧type_of% @binI.eq_12∧type_of% @binI.eq_13∧type_of% @binI.eq_14∧type_of% @binI.eq_15∧type_of% @binI.eq_16∧type_of% @binI.eq_17∧type_of% @unR.eq_1∧type_of% @unR.eq_2∧type_of% @zmZ.eq_1∧type_of% @zqQ.eq_1∧type_of% @zmj.eq_1∧type_of% @zeb.eq_1∧type_of% @zi4.eq_1∧type_of% @extR.eq_1∧type_of% @zmk.eq_1∧type_of% @eqB.eq_1∧type_of% @evU∧type_of% @ztJ∧type_of% @oN.eq_1∧type_of% @oG.eq_1∧type_of% @oM.eq_1∧type_of% @oK.eq_1∧type_of% @oL.eq_1∧type_of% @oA.eq_1∧type_of% @oF.eq_1∧type_of% @oI.eq_1∧type_of% @oE.eq_1∧type_of% @oX.eq_1∧type_of% @oB.eq_1∧type_of% @oC.eq_1∧type_of% @oS.eq_1∧type_of% @oT.eq_1∧type_of% @Yaa.eq_1∧type_of% @Yab.eq_1∧type_of% @Yac.eq_1∧type_of% @Yad.eq_1∧type_of% @Yae.eq_1∧type_of% @Yaf.eq_1∧type_of% @Yag.eq_1∧type_of% @Yah.eq_1∧type_of% @Yai.eq_1∧type_of% @Yaj.eq_1∧type_of% @Yak.eq_1∧type_of% @Yal.eq_1∧type_of% @Yam.eq_1∧type_of% @Yan.eq_1∧type_of% @Yao.eq_1∧type_of% @Yap.eq_1∧type_of% @Yaq.eq_1∧type_of% @Yar.eq_1∧type_of% @Yas.eq_1∧type_of% @Yat.eq_1∧type_of% @Yau.eq_1∧type_of% @Yav.eq_1∧type_of% @Yaw.eq_1∧type_of% @Yax.eq_1∧type_of% @Yay.eq_1∧type_of% @Yaz.eq_1∧type_of% @YaA.eq_1∧type_of% @YaB.eq_1∧type_of% @YaC.eq_1 :=
 ⟨@evA,@boxR.eq_1,@zrg.eq_1,@zmf.eq_1,@fldR.eq_1,@binI.eq_1,@binI.eq_2,@binI.eq_3,@binI.eq_4,@binI.eq_5,@binI.eq_6,@binI.eq_7,@binI.eq_8,@binI.eq_9,@binI.eq_10,@binI.eq_11,@binI.eq_12,@binI.eq_13,@binI.eq_14,@binI.eq_15,@binI.eq_16,@binI.eq_17,@unR.eq_1,@unR.eq_2,@zmZ.eq_1,@zqQ.eq_1,@zmj.eq_1,@zeb.eq_1,@zi4.eq_1,@extR.eq_1,@zmk.eq_1,@eqB.eq_1,@evU,@ztJ,@oN.eq_1,@oG.eq_1,@oM.eq_1,@oK.eq_1,@oL.eq_1,@oA.eq_1,@oF.eq_1,@oI.eq_1,@oE.eq_1,@oX.eq_1,@oB.eq_1,@oC.eq_1,@oS.eq_1,@oT.eq_1,@Yaa.eq_1,@Yab.eq_1,@Yac.eq_1,@Yad.eq_1,@Yae.eq_1,@Yaf.eq_1,@Yag.eq_1,@Yah.eq_1,@Yai.eq_1,@Yaj.eq_1,@Yak.eq_1,@Yal.eq_1,@Yam.eq_1,@Yan.eq_1,@Yao.eq_1,@Yap.eq_1,@Yaq.eq_1,@Yar.eq_1,@Yas.eq_1,@Yat.eq_1,@Yau.eq_1,@Yav.eq_1,@Yaw.eq_1,@Yax.eq_1,@Yay.eq_1,@Yaz.eq_1,@YaA.eq_1,@YaB.eq_1,@YaC.eq_1⟩
theorem evWB:type_of% @evWA∧type_of% @and_self∧type_of% @Int.natCast_zero∧type_of% @Int.natCast_one∧type_of% @Int.cast_ofNat_Int∧type_of% @evV∧type_of% @za.eq_1∧type_of% @zxt.eq_1∧type_of% @ztC.eq_1∧type_of% @encP.eq_1 :=
 ⟨@evWA,@and_self,@Int.natCast_zero,@Int.natCast_one,@Int.cast_ofNat_Int,@evV,@za.eq_1,@zxt.eq_1,@ztC.eq_1,@encP.eq_1⟩
theorem dcd:type_of% @decide_eq_true_eq∧type_of% @decide_eq_false_iff_not∧type_of% @Bool.not_eq_true'∧type_of% @Bool.not_eq_false'∧type_of% @Bool.and_eq_true∧type_of% @Bool.or_eq_true∧type_of% @not_true_eq_false∧type_of% @not_false_eq_true :=
 ⟨@decide_eq_true_eq,@decide_eq_false_iff_not,@Bool.not_eq_true',@Bool.not_eq_false',@Bool.and_eq_true,@Bool.or_eq_true,@not_true_eq_false,@not_false_eq_true⟩
theorem lb {p:Prop} (h:p:=by first|rfl|exact(dT (by omega)).symm|exact(dF (by omega)).symm|exact decide_eq_decide.2 (by omega)):p:=h
theorem hBig:big=9223372036854775807:=rfl
theorem fin5 {p:Prop} (h:p:=by(try simp[subK,Kn.get,zeV])<;>(repeat' with_reducible apply And.intro)<;>first|rfl|omega | (simp;done)):p:=h
theorem fin6 {p:Prop} (h:p:=by((repeat' with_reducible apply And.intro)<;>first|omega|rfl|exact ziN (fun _=>rfl)|exact Vw.it _ _ rfl|exact Vw.mp _ _ _ _ rfl|exact zL zW (by decide) ⟨rfl,rfl⟩ trivial|exact zL zW (by decide) (fun _ _=>⟨rfl,rfl⟩) trivial | (refine zly rfl ?_;(repeat' (first|exact zj zW|exact zaz|exact zj (fun _=>rfl)|exact zj (fun _=>zn)|exact zj (fun _=>zb)|exact zx zn|exact zx zb|exact zaC rfl|exact zaj|exact zx rfl|refine zag ?_ ?_|refine zm rfl ?_|refine zm zn ?_|refine zm zb ?_));done)|exact zcU rfl | (refine RowV.of_flat ?_;(repeat' (first|exact zj zW|exact zaz|exact zj (fun _=>rfl)|exact zj (fun _=>zn)|exact zj (fun _=>zb)|exact zx zn|exact zx zb|exact zaC rfl|exact zaj|exact zx rfl|refine zag ?_ ?_|refine zm rfl ?_|refine zm zn ?_|refine zm zb ?_));done) | ((repeat' (first|exact zj zW|exact zaz|exact zj (fun _=>rfl)|exact zj (fun _=>zn)|exact zj (fun _=>zb)|exact zx zn|exact zx zb|exact zaC rfl|exact zaj|exact zx rfl|refine zag ?_ ?_|refine zm rfl ?_|refine zm zn ?_|refine zm zb ?_));done)|exact zhk rfl rfl (by omega)|exact zbQ rfl rfl (by omega)|exact zeP rfl rfl (by omega)|exact zhs (fun _=>rfl)|exact zL (fun _=>rfl) (by decide) ⟨rfl,rfl⟩ trivial|exact zL (fun _=>rfl) (by decide) (fun _ _=>⟨rfl,rfl⟩) trivial | (simp;done))):p:=h
theorem fin7 {p:Prop} (h:p:=by((repeat' with_reducible apply And.intro)<;>first|omega|rfl|exact zcU rfl | (refine RowV.of_flat ?_;(repeat' (first|exact zj (fun _=>rfl)|exact zj (fun _=>zn)|exact zj (fun _=>zb)|exact zx zn|exact zx zb|exact zaC rfl|exact zaj|exact zx rfl|refine zag ?_ ?_|refine zm rfl ?_|refine zm zn ?_|refine zm zb ?_));done) | ((repeat' (first|exact zj (fun _=>rfl)|exact zj (fun _=>zn)|exact zj (fun _=>zb)|exact zx zn|exact zx zb|exact zaC rfl|exact zaj|exact zx rfl|refine zag ?_ ?_|refine zm rfl ?_|refine zm zn ?_|refine zm zb ?_));done)|exact zDu rfl rfl (by omega)|exact zoS rfl rfl (by omega)|exact zFK rfl rfl (by omega)|exact zBZ rfl rfl (by omega)|exact zhk rfl rfl (by omega)|exact zbQ rfl rfl (by omega)|exact zeP rfl rfl (by omega)|exact zhs (fun _=>rfl)|exact zL (fun _=>rfl) (by decide) ⟨rfl,rfl⟩ trivial|exact zL (fun _=>rfl) (by decide) (fun _ _=>⟨rfl,rfl⟩) trivial | (simp;done))):p:=h
theorem fin8 {p:Prop} (h:p:=by(try simp only[evWB,Nat.reduceBEq,Nat.reduceAdd,Nat.reduceSub,Nat.reduceLeDiff,Nat.reduceLT,implies_true])<;>(repeat' with_reducible apply And.intro)<;>first | (refine zL zW (by decide) ⟨rfl,rfl⟩ ?_;(try simp only[evWB,Nat.reduceBEq,Nat.reduceAdd,Nat.reduceSub,Nat.reduceLeDiff,Nat.reduceLT,implies_true])<;>(repeat' with_reducible apply And.intro)<;>first | (refine zL zW (by decide) ⟨rfl,rfl⟩ ?_;(try simp only[evWB,Nat.reduceBEq,Nat.reduceAdd,Nat.reduceSub,Nat.reduceLeDiff,Nat.reduceLT,implies_true])<;>exact fin6;done)|exact fin6;done)|exact fin6):p:=h
theorem fin9 {p:Prop} (h:p:=by(try simp only[evWB,Nat.reduceBEq,Nat.reduceAdd,Nat.reduceSub,Nat.reduceLeDiff,Nat.reduceLT,implies_true])<;>exact fin6):p:=h
inductive MC where
 | hd (c:Int)
 | en (k b:Int)
def cm:MC→List AV
 | .hd c=>[.int .i64 c,.undef,.undef]
 | .en k b=>[.int .i64 k,.bool true,.int .i64 b]
theorem zW:∀a,zM (cm a)=true
 | .hd _=>rfl
 | .en _ _=>rfl
def enL (ps:List (Int × Int)):List MC:=ps.map fun p=>.en p.1 p.2
def setM (c:Int) (ps:List (Int × Int)):List MC:=.hd c::enL ps
theorem zB (c:Int) (ps:List (Int × Int)):(setM c ps).map cm=[.int .i64 c,.undef,.undef]::(enL ps).map cm:=rfl
def zGS (r q:Nat) (o:Option AObj) (H:AH) (nx:Nat):ORes:=match o with
 |
  some (.row sz (hd::_) g)=>match hd with
  | [.int .i64 c,_,_]=>⟨sz=3∧g=0,True,.it nx,H.set nx 0 (.row 1 [[.mp r q],[.int .i64 c],[.int .i64 c]] 0),nx+1⟩
  | _=>bad H nx
 | _=>bad H nx
def mdTo (str:Option IntKind) (r q:Nat) (k:AV) (sz g:Nat) (hd:List AV) (es:List (List AV)) (o:Option (Option (Nat × AV))) (H:AH) (nx:Nat):ORes:=match o with
 | some (some (i,_))=>⟨sz=3∧g=0∧zgK str k,True,.tup [],H.set r q (.row 3 (hd::es.eraseIdx i) 0),nx⟩
 | some none=>⟨sz=3∧g=0∧zgK str k,True,.tup [],H,nx⟩
 | none=>bad H nx
def zG5 (str:Option IntKind) (r q:Nat) (k:AV) (o:Option AObj) (H:AH) (nx:Nat):ORes:=match o with
 | some (.row sz (hd::es) g)=>mdTo str r q k sz g hd es (zfa k es 0) H nx
 | _=>bad H nx
theorem zuc {str:Option IntKind} {k:AV} {r q:Nat} {H:AH} {nx:Nat}:xopR (.mdel str) [.mp r q,k] H nx=zG5 str r q k (H.get r q) H nx:=by
 show zmA str (.mp r q) k H nx=_;simp only[zmA,zG5]
 cases H.get r q with
 | none=>rfl
 |
  some o =>
  cases o with
  | fam _ _=>rfl
  |
   row sz els g =>
   cases els with
   | nil=>rfl
   | cons hd es=>rfl
theorem zp1 {r q:Nat} {H:AH} {nx:Nat}:xopR .mrange [.mp r q] H nx=zGS r q (H.get r q) H nx:=by
 show zdW (.mp r q) H nx=_;simp only[zdW,zGS]
 cases H.get r q with
 | none=>rfl
 |
  some o =>
  cases o with
  | fam _ _=>rfl
  |
   row sz els g =>
   cases els with
   | nil=>rfl
   | cons hd es=>rfl
theorem zsK {k:Int}:∀ {ps:List (Int × Int)} {i:Nat},zfa (.int .i64 k) ((enL ps).map cm) i=some (match ps.findIdx? (fun p=>decide (p.1=k)) with
  | some j=>some (i+j,.bool true)
  | none=>none)
 | [],i=>rfl
 |
  p::ps,i=>by
  rw[List.findIdx?_cons]
  by_cases h:k=p.1
  · rw[if_pos (decide_eq_true h.symm)];simp only[enL,Wl,cm,zfa,zxB,if_true,decide_eq_true h,WJ]
  ·
   rw[if_neg (by simp;exact fun e=>h e.symm)]
   have e:zfa (.int .i64 k) ((enL (p::ps)).map cm) i=zfa (.int .i64 k) ((enL ps).map cm) (i+1):=by simp only[enL,Wl,cm,zfa,zxB,if_true,decide_eq_false h]
   rw[e,zsK]
   cases ps.findIdx? (fun p=>decide (p.1=k)) with
   | none=>rfl
   |
    some j =>
    simp only[Option.map_some];rw[show i+1+j=i+(j+1) by omega]
theorem zmU {k:Int} {ps:List (Int × Int)} (h:k∈ps.map (·.1)):∃j,∃hj:j < ps.length,ps[j].1=k∧zfa (.int .i64 k) ((enL ps).map cm) 0=some (some (j,.bool true)):=by
 rw[zsK]
 cases hf:ps.findIdx? (fun p=>decide (p.1=k)) with
 |
  none =>
  obtain⟨p,hp,rfl⟩:=Wc.1 h;have:=List.findIdx?_eq_none_iff.1 hf p hp;simp at this
 |
  some j =>
  obtain⟨h1,h2,_⟩:=WN.1 hf;exact⟨j,h1,of_decide_eq_true h2,by simp⟩
theorem zkE {k:Int} {ps:List (Int × Int)} (h:k∉ps.map (·.1)):zfa (.int .i64 k) ((enL ps).map cm) 0=some none:=by
 rw[zsK]
 cases hf:ps.findIdx? (fun p=>decide (p.1=k)) with
 | none=>rfl
 |
  some j =>
  obtain⟨h1,h2,_⟩:=WN.1 hf;exact absurd (Wc.2 ⟨_,List.getElem_mem h1,of_decide_eq_true h2⟩) h
theorem zCA {ps:List (Int × Int)} (hb:(ps.map (·.2)).Nodup) {p p':Int × Int} (hp:p∈ps) (hp':p'∈ps) (h:p.2=p'.2):p=p':=by
 induction ps with
 | nil=>cases hp
 |
  cons x ps ih =>
  rw[Wl,List.nodup_cons] at hb
  by_cases h1:p∈ps
  ·
   by_cases h2:p'∈ps
   · exact ih hb.2 h1 h2
   ·
    have e:p'=x:=by simpa [h2] using hp'
    subst e;exact absurd (show p'.2∈ps.map (fun x=>x.2) from Wc.2 ⟨p,h1,h⟩) hb.1
  ·
   have e:p=x:=by simpa [h1] using hp
   by_cases h2:p'∈ps
   · subst e;exact absurd (show p.2∈ps.map (fun x=>x.2) from Wc.2 ⟨p',h2,h.symm⟩) hb.1
   ·
    have e':p'=x:=by simpa [h2] using hp'
    rw[e,e']
theorem zyA {P:Program} {d:Option Nat} {rst:Rest} {drop:List Nat} {Q:QT} {K:Kn} {H:AH} {nx r rm qm:Nat} {c since st:Int} {ps sel:List (Int × Int)}
  (hr:H.get r 0=some (.row 1 ([.mp rm qm]::[.int .i64 since]::[.int .i64 st]::sel.map fun p=>[.int .i64 p.2]) 0)) (hm:H.get rm qm=some (.row 3 ((setM c ps).map cm) 0))
  (h1:since≤st) (h2:∀p∈ps,p.2 < since) (hb:(ps.map (·.2)).Nodup) (hs:∀p∈sel,p∈ps)
  (h4:(∀p∈ps,p∈sel)→zaI P rst drop Q (setO K d (.tup [.bool false])) H nx)
  (h5:∀p∈ps,p∉sel→zaI P rst drop Q (setO K d (.tup [.bool true,.int .i64 p.1,.bool true])) (H.set r 0 (.row 1 ([.mp rm qm]::[.int .i64 since]::[.int .i64 c]::(sel++[p]).map fun p=>[.int .i64 p.2]) 0)) nx) :
  zEX P (.it r) d rst drop Q K H nx:=by
 have hin:∀p∈ps,zun (.int .i64 p.2) (sel.map fun p=>[.int .i64 p.2])=decide (p∈sel):=by
  intro p hp;unfold zun;rw[Bool.eq_iff_iff,WL,decide_eq_true_eq];constructor
  ·
   rintro⟨s,hs1,hs2⟩;obtain⟨p',hp',rfl⟩:=Wc.1 hs1;simp only[decide_eq_true_eq] at hs2
   have:p'=p:=by exact zCA hb (hs p' hp') hp hs2
   rw[←this];exact hp'
  · intro h;exact⟨_,Wc.2 ⟨p,h,rfl⟩,by simp⟩
 have hleft:zxu (sel.map fun p=>[.int .i64 p.2]) ((enL ps).map cm)=(enL (ps.filter fun p => !decide (p∈sel))).map cm:=by
  unfold zxu enL;simp only[WC];rw[List.filter_map]
  congr 1
  refine WG fun p hp=>?_
  simp only[Function.comp,cm,List.getD_cons_succ,List.getD_cons_zero];rw[hin p hp]
 unfold zEX zlp;simp only;rw[hr];simp only;rw[hm,zB];simp only;refine⟨⟨trivial,trivial,trivial,trivial,h1,fun e he=>?_,fun s hs'=>?_⟩,fun hn=>h4 fun p hp=>?_,fun e he=>?_⟩
 · obtain⟨x,hx,rfl⟩:=Wc.1 he;obtain⟨p,hp,rfl⟩:=Wc.1 hx;exact⟨p.2,rfl,h2 p hp⟩
 · obtain⟨p,hp,rfl⟩:=Wc.1 hs';exact⟨p.2,rfl⟩
 ·
  rw[hleft] at hn
  have hf:ps.filter (fun p => !decide (p∈sel))=[]:=by simpa [enL] using hn
  have:=WH.1 hf p hp
  simpa using this
 ·
  rw[hleft] at he;obtain⟨x,hx,rfl⟩:=Wc.1 he;obtain⟨p,hp,rfl⟩:=Wc.1 hx;rw[Wk] at hp;have:=h5 p hp.1 (by simpa using hp.2)
  simpa [cm,zEj] using this
theorem zyl {b:Int}:∀ {ps:List (Int × Int)} {p:Int × Int},p∈ps→p.2=b→(ps.map (·.2)).Nodup→zxv b ((enL ps).map cm)=some (.int .i64 p.1,.bool true)
 | [],_,h,_,_=>by cases h
 |
  x::ps,p,h,hb,hn=>by
  rw[Wl,List.nodup_cons] at hn;show zxv b (cm (.en x.1 x.2)::(enL ps).map cm)=_;simp only[cm,zxv]
  by_cases hx:x.2=b
  ·
   rw[if_pos hx]
   by_cases h2:p∈ps
   · exact absurd (show x.2∈ps.map (fun x=>x.2) from Wc.2 ⟨p,h2,hb.trans hx.symm⟩) hn.1
   ·
    have e:p=x:=by simpa [h2] using h
    rw[e]
  ·
   rw[if_neg hx];refine zyl ?_ hb hn.2
   rcases WA.1 h with rfl|h
   · exact absurd hb hx
   · exact h
theorem zxN {H:AH} {nx r rm qm:Nat} {c since:Int} {ps sel:List (Int × Int)} {p:Int × Int} (hr:H.get r 0=some (.row 1 ([.mp rm qm]::[.int .i64 since]::[.int .i64 c]::(sel++[p]).map fun p=>[.int .i64 p.2]) 0))
  (hm:H.get rm qm=some (.row 3 ((setM c ps).map cm) 0)) (hb:(ps.map (·.2)).Nodup) (hp:p∈ps):xopR .ment [.it r] H nx=⟨True,True,.tup [.int .i64 p.1,.bool true],H,nx⟩:=by
 show zs6 (.it r) H nx=_;unfold zs6;simp only;rw[hr];simp only[List.map_append,Wl,List.map_nil,List.getLast?_append,List.getLast?_singleton,Option.some_or];rw[hm,zB];simp only[zyl hp rfl hb];simp
theorem evM:type_of% @zuc∧type_of% @zp1:=⟨@zuc,@zp1⟩
theorem zut {r q sz g:Nat} {c:Int} {u u':AV} {es:List (List AV)} {H:AH} {nx:Nat}:zGS r q (some (.row sz ([.int .i64 c,u,u']::es) g)) H nx=⟨sz=3∧g=0,True,.it nx,H.set nx 0 (.row 1 [[.mp r q],[.int .i64 c],[.int .i64 c]] 0),nx+1⟩:=rfl
theorem zuJ {str:Option IntKind} {r q sz g:Nat} {k:AV} {hd:List AV} {es:List (List AV)} {H:AH} {nx:Nat}:zG5 str r q k (some (.row sz (hd::es) g)) H nx=mdTo str r q k sz g hd es (zfa k es 0) H nx:=rfl
abbrev Fds:=List (Nat × Nat × Nat)
def fat:Fds→Nat→Nat→Option Nat
 | [],_,_=>none
 | (F,q,N)::t,r',q'=>bif Wa F r'&&Wa q q' then some N else fat t r' q'
def fsig (t:Tab) (fs:Fds):Nat→Nat→Option (Nat × Nat × Nat):=fun r' q'=>match fat fs r' q' with
 | some N=>some (N,0,0)
 | none=>t.sig r' q'
def fOk (n:Nat) (t:Tab):Fds→Bool
 | []=>true
 | (F,_,N)::u=>Wb F n && !(memN (t.map (·.2.1)) N) && !(memN (u.map (·.2.2)) N)&&fOk n t u
def noQ:Nat→Nat→Prop:=fun _ _=>False
theorem zrP {n:Nat} {t:Tab}:∀ {fs:Fds},fOk n t fs=true→∀ {r' q' N},fat fs r' q'=some N→r' < n∧memN (t.map (·.2.1)) N=false∧N∈fs.map (·.2.2)
 | [],_,r',q',N,h=>by cases h
 |
  (F,q,M)::u,hk,r',q',N,h=>by
  simp only[fOk,Wd,WF] at hk;obtain⟨⟨⟨h1,h2⟩,h3⟩,h4⟩:=hk;simp only[fat] at h
  cases hb:Wa F r'&&Wa q q' with
  |
   true =>
   rw[hb] at h;cases h;rw[Wd] at hb;have:=zl hb.1;subst this;exact⟨by simpa [Wn] using h1,h2,by simp⟩
  |
   false =>
   rw[hb] at h;obtain⟨a1,a2,a3⟩:=zrP h4 h;exact⟨a1,a2,by simp only[Wl,WA];exact .inr a3⟩
theorem zC1 {n:Nat} {t:Tab}:∀ {fs:Fds},fOk n t fs=true→∀ {r q r' q' N},fat fs r q=some N→fat fs r' q'=some N→r=r'∧q=q'
 | [],_,r,q,r',q',N,h,_=>by cases h
 |
  (F,p,M)::u,hk,r,q,r',q',N,h,h'=>by
  have hk':=hk;simp only[fOk,Wd,WF] at hk';obtain⟨⟨⟨h1,h2⟩,h3⟩,h4⟩:=hk';simp only[fat] at h h'
  cases hb:Wa F r&&Wa p q with
  |
   true =>
   cases hc:Wa F r'&&Wa p q' with
   |
    true =>
    rw[Wd] at hb hc;exact⟨(zl hb.1).symm.trans (zl hc.1),(zl hb.2).symm.trans (zl hc.2)⟩
   |
    false =>
    rw[hb] at h;rw[hc] at h';cases h;exact absurd ((zY _ _).2 (zrP h4 h').2.2) (by rw[h3];exact Wx)
  |
   false =>
   cases hc:Wa F r'&&Wa p q' with
   |
    true =>
    rw[hb] at h;rw[hc] at h';cases h';exact absurd ((zY _ _).2 (zrP h4 h).2.2) (by rw[h3];exact Wx)
   |
    false =>
    rw[hb] at h;rw[hc] at h';exact zC1 h4 h h'
def zwH (H HH:AH) (σ:Nat→Nat→Option (Nat × Nat × Nat)) (n:Nat):AH→Prop
 | []=>True
 | (r',.row sz els2 g2)::u=>Wb r' n=true∧(match σ r' 0 with
   | some (r,q,d)=>∃els,H.get r q=some (.row sz els (g2+d))∧RowV H HH σ noQ els els2
   | none=>els2=[]∧g2=0)∧zwH H HH σ n u
 | (r',.fam sz ins)::u=>Wb r' n=true∧(∀(i:Nat) (p:List (List AV) × Nat),ins[i]? = some p→match σ r' (i+1) with
   | some (r,q,d)=>∃els,H.get r q=some (.row sz els (p.2+d))∧RowV H HH σ noQ els p.1
   | none=>p=([],0))∧zwH H HH σ n u
def zxS (H HH:AH) (σ:Nat→Nat→Option (Nat × Nat × Nat)):Kn→Kn→Prop
 | [],_=>True
 | (j,v)::u,K=>Vw H HH σ noQ true (K.get j) v∧zxS H HH σ u K
theorem zsu {H HH:AH} {σ:Nat→Nat→Option (Nat × Nat × Nat)} {K:Kn}:∀ {K2:Kn},zxS H HH σ K2 K→∀i,Vw H HH σ noQ true (K.get i) (K2.get i)
 | [],_,i=>.undef _ _
 |
  (j,v)::u,h,i=>by
  simp only[Kn.get]
  cases hb:Wa j i with
  | true=>rw[←zl hb];exact h.1
  | false=>exact zsu h.2 i
theorem zuo {H HH:AH} {σ:Nat→Nat→Option (Nat × Nat × Nat)} {n:Nat}:∀ {H2:AH},zwH H HH σ n H2→∀r o,H2.look r=some o→r < n
 | [],_,r,o,h=>by cases h
 |
  (r',ob)::u,h,r,o,hl=>by
  have hh:Wb r' n=true∧zwH H HH σ n u:=by cases ob<;>exact⟨h.1,h.2.2⟩
  simp only[AH.look] at hl
  cases hb:Wa r' r with
  | true=>rw[←zl hb];simpa [Wn] using hh.1
  | false=>rw[hb] at hl;exact zuo hh.2 r o hl
theorem zvm {H HH:AH} {σ:Nat→Nat→Option (Nat × Nat × Nat)} {n:Nat}:∀ {H2:AH},zwH H HH σ n H2→∀r' q' sz els2 g2,H2.get r' q'=some (.row sz els2 g2) →
  (∃r q d els,σ r' q'=some (r,q,d)∧H.get r q=some (.row sz els (g2+d))∧RowV H HH σ noQ els els2)∨(σ r' q'=none∧els2=[]∧g2=0)
 | [],_,r',q',sz,els2,g2,h=>by cases h
 |
  (r0,ob)::u,h,r',q',sz,els2,g2,hg=>by
  have hh:zwH H HH σ n u:=by cases ob<;>exact h.2.2
  unfold AH.get at hg;simp only[AH.look] at hg
  cases hb:Wa r0 r' with
  | false=>rw[hb] at hg;exact zvm hh r' q' sz els2 g2 hg
  |
   true =>
   rw[hb] at hg;have:=zl hb;subst this;simp only[cond_true,Option.bind_some] at hg
   cases ob with
   |
    row sz0 els0 g0 =>
    cases q' with
    | succ q=>cases hg
    |
     zero =>
     simp only[AObj.part,WI,AObj.row.injEq] at hg;obtain⟨rfl,rfl,rfl⟩:=hg;have h2:=h.2.1
     cases ht:σ r0 0 with
     | none=>rw[ht] at h2;exact .inr ⟨rfl,h2⟩
     |
      some p =>
      obtain⟨r,q,d⟩:=p;rw[ht] at h2;obtain⟨els,h3,h4⟩:=h2;exact .inl ⟨r,q,d,els,rfl,h3,h4⟩
   |
    fam sz0 ins =>
    cases q' with
    | zero=>cases hg
    |
     succ i =>
     simp only[AObj.part] at hg;obtain⟨p,hp,he⟩:=Wp.1 hg;cases he;have h2:=h.2.1 i p hp
     cases ht:σ r0 (i+1) with
     |
      none =>
      rw[ht] at h2;simp only at h2;rw[h2];exact .inr ⟨rfl,rfl,rfl⟩
     |
      some p' =>
      obtain⟨r,q,d⟩:=p';rw[ht] at h2;obtain⟨els,h3,h4⟩:=h2;exact .inl ⟨r,q,d,els,rfl,h3,h4⟩
theorem Ent.fold {K K2:Kn} {H H2:AH} {nx nx2:Nat} (t:Tab) (fs:Fds) (hok:t.ok nx2 []=true) (hf:fOk nx2 t fs=true) (hr:zwH H H2 (fsig t fs) nx2 H2) (hK:zxS H H2 (fsig t fs) K2 K):Ent 0 K H nx K2 H2 nx2:=by
 have tab:∀ {r' q' x},t.sig r' q'=some x→∃r d,t.at r'=some (r,d)∧x=(r,q',d):=by
  intro r' q' x h;unfold Tab.sig at h
  cases e1:t.at r' with
  | none=>rw[e1] at h;cases h
  | some p1=>rw[e1] at h;cases h;exact⟨p1.1,p1.2,rfl,rfl⟩
 refine Ent.view (fsig t fs) noQ ⟨Nat.zero_le _,fun r q h=>absurd h (Nat.not_lt_zero _),?_,fun _ _ _ _ _ _ h=>h,?_,zuo hr,zvm hr⟩ (zsu hK)
 ·
  intro r1 q1 r2 q2 r q d1 d2 h1 h2;unfold fsig at h1 h2
  cases e1:fat fs r1 q1 with
  |
   some N =>
   rw[e1] at h1;cases h1
   cases e2:fat fs r2 q2 with
   | some M=>rw[e2] at h2;cases h2;exact zC1 hf e1 e2
   |
    none =>
    rw[e2] at h2;obtain⟨r0,d0,h3,h4⟩:=tab h2;cases h4;have:=(Tab.ok_at hok h3).2.2;exact absurd ((zY _ _).2 this) (by rw[(zrP hf e1).2.1];exact Wx)
  |
   none =>
   rw[e1] at h1;obtain⟨r0,d0,h3,h4⟩:=tab h1;cases h4
   cases e2:fat fs r2 q2 with
   |
    some M =>
    rw[e2] at h2;cases h2;have:=(Tab.ok_at hok h3).2.2;exact absurd ((zY _ _).2 this) (by rw[(zrP hf e2).2.1];exact Wx)
   |
    none =>
    rw[e2] at h2;obtain⟨r0',d0',h5,h6⟩:=tab h2;cases h6;exact⟨Tab.ok_inj hok h3 h5,rfl⟩
 ·
  intro r' q' x h;unfold fsig at h
  cases e1:fat fs r' q' with
  | some N=>exact(zrP hf e1).1
  |
   none =>
   rw[e1] at h;obtain⟨r0,d0,h3,h4⟩:=tab h;exact(Tab.ok_at hok h3).1
theorem zly {H HH:AH} {σ:Nat→Nat→Option (Nat × Nat × Nat)} {D:Nat→Nat→Prop} {r q r' q':Nat} {tl:List (List AV)} (hs:σ r' q'=some (r,q,0)) (h:zy tl):RowV H HH σ D ([.mp r q]::tl) ([.mp r' q']::tl):=by
 obtain⟨_,h2⟩:=RowV.of_flat (H:=H) (HH:=HH) (σ:=σ) (D:=D) h;refine⟨by simp,fun i c2 hi=>?_⟩
 cases i with
 |
  zero =>
  cases hi;refine⟨_,rfl,rfl,fun j a b h1 h2=>?_⟩
  cases j with
  | zero=>cases h1;cases h2;exact .mp _ _ _ _ hs
  | succ j=>cases h1
 | succ i=>exact h2 i c2 hi
def AV.ref0:AV→Bool
 | .undef | .int .. | .bool _ | .str _ | .nilp | .nilfn | .nilsl | .cut | .nilmp | .own .. | .ptr .. | .mp .. | .it _=>true
 | _=>false
def AV.refs:AV→Bool
 | .agg l=>l.all AV.ref0
 | .tup l=>l.all AV.ref0
 | a=>a.ref0
theorem zwp {w:World} {M M':Nat→Prop} {ι:Inj} {v:Value} {a:AV} (ha:a.ref0=true) (h:VR w M ι v a):VR w M' ι v a:=by
 cases h<;>first | (cases ha;done) | (constructor<;>assumption)
theorem ref_vr {w:World} {M M':Nat→Prop} {ι:Inj} {v:Value} {a:AV} (ha:a.refs=true) (h:VR w M ι v a):VR w M' ι v a:=by
 cases h with
 | agg _ cs asv hs h1 hv=>exact .agg _ _ _ hs h1 (fun i v a h2 h3=>zwp (Wh.1 ha a (Wm h3)) (hv i v a h2 h3))
 | tup _ cs asv hs hv=>exact .tup _ _ _ hs (fun i v a h2 h3=>zwp (Wh.1 ha a (Wm h3)) (hv i v a h2 h3))
 | undef=>exact .undef _ _
 | int _ _ _ h=>exact .int _ _ _ h
 | bool=>exact .bool _ _
 | str _ _ h=>exact .str _ _ h
 | nilp=>exact .nilp _
 | nilfn=>exact .nilfn _
 | nilsl=>exact .nilsl _
 | cut=>exact .cut _ _
 | nilmp=>exact .nilmp _
 | own _ r q g off n a c l h hm hn hc hx=>exact .own _ r q g off n a c l h hm hn hc hx
 | ptr _ r q g i f l h hm=>exact .ptr _ r q g i f l h hm
 | mp _ r q l h hm=>exact .mp _ r q l h hm
 | it _ r l h hm=>exact .it _ r l h hm
 | _=>cases ha
def zsP (els:List (List AV)):Prop:=∀c∈els,c.all AV.ref0=true
def AObj.refs:AObj→Prop
 | .row _ els _=>zsP els
 | .fam _ ins=>∀p∈ins,zsP p.1
def AH.refs:AH→Prop
 | []=>True
 | (_,o)::t=>o.refs∧AH.refs t
theorem zt1:∀ {H:AH},H.refs→∀ {r:Nat} {o:AObj},H.look r=some o→o.refs
 | [],_,r,o,h=>by cases h
 |
  (j,o')::t,h,r,o,hl=>by
  simp only[AH.look] at hl
  cases hb:Wa j r with
  | true=>rw[hb] at hl;cases hl;exact h.1
  | false=>rw[hb] at hl;exact zt1 h.2 hl
theorem zEw {H:AH} (h:H.refs) {r q sz g:Nat} {els:List (List AV)} (hg:H.get r q=some (.row sz els g)):zsP els:=by
 unfold AH.get at hg
 cases hl:H.look r with
 | none=>rw[hl] at hg;cases hg
 |
  some o =>
  rw[hl] at hg;have ho:=zt1 h hl
  cases o with
  |
   row sz0 els0 g0 =>
   cases q with
   | succ q=>cases hg
   | zero=>cases hg;exact ho
  |
   fam sz0 ins =>
   cases q with
   | zero=>cases hg
   |
    succ i =>
    obtain⟨p,hp,he⟩:=Wp.1 hg;cases he;exact ho p (Wm hp)
theorem zEz {α:Type} {f:α→List AV} {l:List α} (h:∀a,(f a).all AV.ref0=true):zsP (l.map f):=by intro c hc;obtain⟨a,_,rfl⟩:=Wc.1 hc;exact h a
variable {P:Program} {H:AH} {nx:Nat} {D:Nat→Nat→Prop}
theorem zzA {f:FuncId} {asv bs:List AV} {Post k:AV→AH→Nat→Prop} (h:zab P f bs [] 0 Post) (ha:Lend H D asv bs) (hq:∀v H' nx',Post v H' nx'→v.refs=true∧H'.refs)
  (hk:∀v H' nx',Post v H' nx'→k (v.ren (Tab.to [] nx)) (H.over [] nx H') (nx+nx')):zab P f asv H nx k:=by
 intro w L ι vs rel hv
 refine(h w (ziB L ι H D) noI vs (.empty (zsx rel)) (ha.vrs rel hv)).mono fun e w' ⟨v,ι',H',nx',a,h3,h4,_,h6,h7⟩=>?_
 obtain⟨q1,q2⟩:=hq _ _ _ h7
 have hsz:∀b,L b∨othr ι H [] nx b→b < w.heap.size:=by
  rintro b (hb|hb)
  · exact rel.Lsz b hb
  · obtain⟨r,q,sz,els,g,l,_,h1,h2,h3,h5⟩:=hb;exact rel.live_lt ⟨r,q,sz,els,g,l,h1,h2,h3,h5⟩
 have st:Step w (fun b=>L b∨othr ι H [] nx b) noI [] 0 w' ι' H' nx':=by
  refine⟨h4.ext,h4.inj,⟨fun r q sz els g hg=>?_,h4.rel.apart,fun b hb hL=>?_,h4.rel.idx,h4.rel.dom,h4.rel.gen,fun b hb=>Wy (hsz b hb) h4.ext.size⟩,h4.lv⟩
  · obtain⟨l,h1,ok⟩:=h4.rel.row _ _ _ _ _ hg;refine⟨l,h1,ok.view (fun _=>rfl) rfl (fun i c hi=>⟨c,hi,rfl,fun j a a' hj hj' v hv=>?_⟩)⟩;rw[hj] at hj';cases hj';exact zwp (Wh.1 (zEw q2 hg c (Wm hi)) a (Wm hj)) hv
  ·
   rcases h4.lv b hb with h|h
   · exact zjq b h
   · have:=hsz b hL;omega
 obtain⟨h8,h9⟩:=Step.over (tb:=[]) rfl rfl rel (fun r q g l _ hn=>absurd rfl hn) (fun b hb=>(zjq b hb).elim) st;exact⟨v,_,_,_,_,h3,h8,Nat.le_add_right _ _,h9 v a (ref_vr q1 h6),hk _ _ _ h7⟩
section
variable {P:Program}
structure DrawOk2 (rk:Nat→Nat) (ops:List AOper) (deps:List (List Nat)) (Ls:List Nat) (A:List (List Nat)) (St:List (List Nat)) (plan:Plan) (ks:List Nat):Prop where
 low:∀(i:Nat),i < ops.length→∀j∈deps.getD i [],j < ops.length∧rk j < rk i
 clo:∀(i:Nat),i < ops.length→∀j∈A.getD i [],j∈deps.getD i []∨∃d∈deps.getD i [],j∈A.getD d []
 one:∀(i j d:Nat),i < ops.length→j < ops.length→(ops.getD i default).dst=some d→(ops.getD j default).dst=some d→i=j
 keys:∀k∈ks,∃o∈ops,o.dst=some k
 look:∀(i:Nat),i < ops.length→∀t∈(ops.getD i default).looks,(∃j∈A.getD i [],(ops.getD j default).dst=some t)∨∀o∈ops,o.dst≠some t
 lin:∀i∈Ls,i < ops.length
 st0:[]∈St
 stc:∀S∈St,∀i∈Ls,zdL Ls A i S=true→zkS Ls i S∈St
 plan:∀(i:Nat),i < ops.length→((ops.getD i default).fixed=true∧(ops.getD i default).sees=false∧i∉Ls∧anyP plan i=true) ∨
  (i∉Ls∧∀S∈St,zdL Ls A i S=true→memP plan i S S=true)∨(i∈Ls∧∀S∈St,zdL Ls A i S=true→memP plan i S (zkS Ls i S)=true)
end
def zq1 (N:Nat):Nat→Nat→Option (Nat × Nat × Nat):=fun r q=>if r < N then some (r,q,0) else none
section
variable {H H2:AH} {σ:Nat→Nat→Option (Nat × Nat × Nat)} {D:Nat→Nat→Prop}
theorem zFM {N:Nat} (hs:∀r q,r < N→σ r q=some (r,q,0)) {a:AV} (h:a.lt0 N=true):Vw H H2 σ D true a a:=by
 cases a
 case own r q g o n=>exact .own _ _ _ 0 _ _ _ _ _ (hs _ _ (by simpa [AV.lt0,Wn] using h)) rfl
 case ptr r q g i f=>exact .ptr _ _ _ 0 _ _ _ _ _ (hs _ _ (by simpa [AV.lt0,Wn] using h)) rfl
 case mp r q=>exact .mp _ _ _ _ (hs _ _ (by simpa [AV.lt0,Wn] using h))
 case it r=>exact .it _ _ (hs _ _ (by simpa [AV.lt0,Wn] using h))
 case fn _ _=>cases h
 case agg _=>cases h
 case tup _=>cases h
 case nilmp=>exact .nilmp _
 all_goals exact zO rfl
theorem zyf {N:Nat} (hs:∀r q,r < N→σ r q=some (r,q,0)) {l:List AV} (h:l.all (AV.lt0 N)=true):∀(i:Nat) (a b:AV),l[i]? = some a→l[i]? = some b→Vw H H2 σ D true a b:=by intro i a b h1 h2;rw[h1] at h2;cases h2;exact zFM hs (Wh.1 h a (Wm h1))
theorem vw_lt1 {N:Nat} (hs:∀r q,r < N→σ r q=some (r,q,0)) {a:AV} (h:a.lt1 N=true):Vw H H2 σ D true a a:=by
 cases a
 case fn f l=>exact .fn _ _ _ _ rfl (zyf hs h)
 case agg l=>exact .agg _ _ _ rfl (zyf hs h)
 case tup l=>exact .tup _ _ _ rfl (zyf hs h)
 all_goals exact zFM hs h
theorem zBl {N:Nat} (hs:∀r q,r < N→σ r q=some (r,q,0)) {els:List (List AV)} (h:zkY N els):RowV H H2 σ D els els:=by refine⟨rfl,fun i c2 hi=>⟨c2,hi,rfl,fun j a b h1 h2=>?_⟩⟩;exact zyf hs (h c2 (Wm hi)) j a b h1 h2
end
def zCF (N:Nat):Kn→Kn→Prop
 | [],_=>True
 | (j,v)::t,K=>(K.get j=v∧v.lt1 N=true)∧zCF N t K
theorem zrU {N:Nat} {K:Kn}:∀ {K2:Kn},zCF N K2 K→∀i,K2.get i=.undef∨(K2.get i=K.get i∧(K2.get i).lt1 N=true)
 | [],_,i=>.inl rfl
 |
  (j,v)::t,h,i=>by
  simp only[Kn.get]
  cases hb:Wa j i with
  | true=>rw[←zl hb];exact .inr ⟨h.1.1.symm,h.1.2⟩
  | false=>exact zrU h.2 i
def zx5 (H H2:AH) (σ:Nat→Nat→Option (Nat × Nat × Nat)) (D:Nat→Nat→Prop):Kn→Kn→Prop
 | [],_=>True
 | (j,v)::t,K=>Vw H H2 σ D true (K.get j) v∧zx5 H H2 σ D t K
theorem zh5 {H H2:AH} {σ:Nat→Nat→Option (Nat × Nat × Nat)} {D:Nat→Nat→Prop} {K:Kn}:∀ {K2:Kn},zx5 H H2 σ D K2 K→∀i,Vw H H2 σ D true (K.get i) (K2.get i)
 | [],_,i=>.undef _ _
 |
  (j,v)::t,h,i=>by
  simp only[Kn.get]
  cases hb:Wa j i with
  | true=>rw[←zl hb];exact h.1
  | false=>exact zh5 h.2 i
theorem Ent.keepN {B:Nat} {K K2:Kn} {H:AH} {nx:Nat} (hB:B≤nx) (h:subK K2 K):Ent B K H nx K2 H nx:=Ent.same hB (fun _=>rfl) h
theorem zba {a b:Nat} (h:a < b):(a == b)=false:=beq_false_of_ne (by omega)
theorem zr {T:AH} {r x:Nat} {o:AObj} (h:x≠r):(T.put r o).look x=T.look x:=by rw[AH.look_put,if_neg h]
theorem Ent.low {B N nx:Nat} {K K2:Kn} {H H2:AH} (hB:B≤N) (hH:∀r o,H2.look r=some o→H.look r=some o) (hlt:zem N H2) (hK:zCF N K2 K):Ent B K H nx K2 H2 N:=by
 have hs:∀r q,r < N→zq1 N r q=some (r,q,0):=fun r q h=>if_pos h
 refine Ent.view (zq1 N) (fun _ _=>False) ⟨hB,fun r q h=>hs r q (by omega),?_,fun _ _ _ _ _ _ h=>h,?_,fun r o h=>(zgF hlt h).1,?_⟩ ?_
 ·
  intro r1 q1 r2 q2 r q d1 d2 h1 h2;unfold zq1 at h1 h2;split at h1
  ·
   split at h2
   · cases h1;cases h2;exact⟨rfl,rfl⟩
   · cases h2
  · cases h1
 ·
  intro r' q' x h;unfold zq1 at h;split at h
  · assumption
  · cases h
 · intro r q sz els g h;have hl:=zsf hlt h;refine .inl ⟨r,q,0,els,hs r q hl.1,?_,zBl hs hl.2⟩;unfold AH.get at h ⊢;obtain⟨o,h1,h2⟩:=WO.1 h;rw[hH r o h1];exact h2
 ·
  intro i
  rcases zrU hK i with h | ⟨h1,h2⟩
  · rw[h];exact .undef _ _
  · rw[←h1];exact vw_lt1 hs h2
theorem Ent.lowF {B N nx:Nat} {K K2:Kn} {H H2:AH} (hB:B≤N) (hH:∀r o,H2.look r=some o→H.look r=some o) (hlt:zem N H2) (hK:zx5 H H2 (zq1 N) (fun r _=>N≤r) K2 K):Ent B K H nx K2 H2 N:=by
 have hs:∀r q,r < N→zq1 N r q=some (r,q,0):=fun r q h=>if_pos h
 refine Ent.view (zq1 N) (fun r _=>N≤r) ⟨hB,fun r q h=>hs r q (by omega),?_,?_,?_,fun r o h=>(zgF hlt h).1,?_⟩ (zh5 hK)
 ·
  intro r1 q1 r2 q2 r q d1 d2 h1 h2;unfold zq1 at h1 h2;split at h1
  ·
   split at h2
   · cases h1;cases h2;exact⟨rfl,rfl⟩
   · cases h2
  · cases h1
 ·
  intro r' q' r q d h;unfold zq1 at h;split at h
  · cases h;omega
  · cases h
 ·
  intro r' q' x h;unfold zq1 at h;split at h
  · assumption
  · cases h
 · intro r q sz els g h;have hl:=zsf hlt h;refine .inl ⟨r,q,0,els,hs r q hl.1,?_,zBl hs hl.2⟩;unfold AH.get at h ⊢;obtain⟨o,h1,h2⟩:=WO.1 h;rw[hH r o h1];exact h2
def viewL (B:Nat) (H2:AH) (σ:Nat→Nat→Option (Nat × Nat × Nat)) (ι:Inj):Inj:=fun r q g=>match zbI H2 σ ι r q g with
 | some l=>some l
 | none=>if r < B then ι r q g else none
theorem Ent.viewL {B nx nx2:Nat} {K K2:Kn} {H H2:AH} (σ:Nat→Nat→Option (Nat × Nat × Nat)) (D:Nat→Nat→Prop) (vw:View 0 H H2 nx2 σ D) (hB:B≤nx2)
  (hb:∀r q,r < B→σ r q=some (r,q,0)∨(σ r q=none∧H2.look r=none)) (hK:∀i,Vw H H2 σ D true (K.get i) (K2.get i)):Ent B K H nx K2 H2 nx2:=by
 refine⟨hB,fun w L ι tmps rel hk=>?_⟩;have rel1:=vw.rel rel
 have ext:∀r q g l,zbI H2 σ ι r q g=some l→Go.Ab.viewL B H2 σ ι r q g=some l:=fun r q g l h=>by unfold Go.Ab.viewL;rw[h]
 have back:∀r q sz els g g2 l,H2.get r q=some (.row sz els g)→Go.Ab.viewL B H2 σ ι r q g2=some l→zbI H2 σ ι r q g2=some l:=by
  intro r q sz els g g2 l hg h;unfold Go.Ab.viewL at h
  cases hv:zbI H2 σ ι r q g2 with
  | some x=>rw[hv] at h;exact h
  |
   none =>
   rw[hv] at h;simp only at h;split at h
   ·
    rename_i hr
    rcases hb r q hr with h1 | ⟨_,h2⟩
    · simp only[zbI,h1,WJ] at hv;rw[hv] at h;cases h
    · unfold AH.get at hg;rw[h2] at hg;cases hg
   · cases h
 have hlive:∀b,live (Go.Ab.viewL B H2 σ ι) H2 b↔live (zbI H2 σ ι) H2 b:=fun b =>
  ⟨fun⟨r,q,sz,els,g,l,h1,h2,h3,h4⟩=>⟨r,q,sz,els,g,l,h1,back _ _ _ _ _ _ _ h1 h2,h3,h4⟩,fun⟨r,q,sz,els,g,l,h1,h2,h3,h4⟩=>⟨r,q,sz,els,g,l,h1,ext _ _ _ _ h2,h3,h4⟩⟩
 have hlt:Lt L (Go.Ab.viewL B H2 σ ι) H2=Lt L (zbI H2 σ ι) H2:=by
  funext b
  simp only[Lt,hlive]
 have up:∀ {v a},VR w (Lt L (zbI H2 σ ι) H2) (zbI H2 σ ι) v a→VR w (Lt L (Go.Ab.viewL B H2 σ ι) H2) (Go.Ab.viewL B H2 σ ι) v a:=by intro v a h;rw[hlt];exact h.mono (fun b _ hn=>⟨rfl,hn⟩) ext
 refine⟨Go.Ab.viewL B H2 σ ι,⟨?_,?_,fun b h=>rel1.out b ((hlive b).1 h),?_,rel1.dom,?_,rel1.Lsz⟩,fun i=>up (vw.vr rel (hK i) (hk i)),fun b h=>vw.lv ((hlive b).1 h),?_⟩
 · intro r q sz els g h;obtain⟨l,h1,ok⟩:=rel1.row _ _ _ _ _ h;exact⟨l,ext _ _ _ _ h1,ok.view (fun _=>rfl) rfl (fun i c hi=>⟨c,hi,rfl,fun j a a' hj hj' v hv=>by rw[hj] at hj';cases hj';exact up hv⟩)⟩
 · intro r1 q1 r2 q2 s1 e1 g1 l1 s2 e2 g2 l2 h1 h2 h3 h4;exact rel1.apart _ _ _ _ _ _ _ _ _ _ _ _ h1 h2 (back _ _ _ _ _ _ _ h1 h3) (back _ _ _ _ _ _ _ h2 h4)
 ·
  intro r q g l h;unfold Go.Ab.viewL at h
  cases hv:zbI H2 σ ι r q g with
  | some x=>exact rel1.idx _ _ _ _ hv
  |
   none =>
   rw[hv] at h;simp only at h;split at h
   · omega
   · cases h
 · intro r q sz els g h g2 l h2;exact rel1.gen _ _ _ _ _ h _ _ (back _ _ _ _ _ _ _ h h2)
 ·
  intro r q g l hr h;unfold Go.Ab.viewL
  cases hv:zbI H2 σ ι r q g with
  | none=>simp only;rw[if_pos hr];exact h
  |
   some x =>
   rcases hb r q hr with h1 | ⟨h1,h2⟩
   · simp only[zbI,h1,WJ] at hv;rw[h] at hv;exact hv.symm
   · simp only[zbI,h1] at hv;unfold AH.get at hv;rw[h2] at hv;cases hv
end Go.Ab
namespace Go.Proofs
open Go.RowKit Go.Maps Go.Sort Go.Shelf
def zxA:Go.Shelf.Ren:=⟨fun|5=>68|8=>85|7=>93|19=>111|20=>112|10=>119|11=>120|12=>121|13=>122|14=>123|15=>124|16=>125|17=>126|18=>127|30=>146|31=>139|32=>140|33=>147|34=>148|35=>149|40=>158|n=>n,fun|23=>26|25=>3|3=>3|32=>118|22=>26|0=>0|44=>22|46=>147|4=>4|36=>138|35=>137|41=>143|5=>5|9=>9|53=>167|57=>171|63=>184|64=>185|n=>n,fun|n=>n⟩
theorem zA2:Go.Proofs.SlLaysM.n5 Tryz.prog zxA:={
 mixed:=by kernel_rfl,
 f5:=⟨Tryz.f68.name,by decide,Tryz.func68.trans (congrArg some (by kernel_rfl))⟩,
 f7:=⟨Tryz.f93.name,by decide,Tryz.func93.trans (congrArg some (by kernel_rfl))⟩,
 f8:=Tryz.func85.trans (congrArg some (by kernel_rfl)),
 f10:=⟨Tryz.f119.name,by decide,Tryz.func119.trans (congrArg some (by kernel_rfl))⟩,
 f11:=⟨Tryz.f120.name,by decide,Tryz.func120.trans (congrArg some (by kernel_rfl))⟩,
 f12:=⟨Tryz.f121.name,by decide,Tryz.func121.trans (congrArg some (by kernel_rfl))⟩,
 f13:=⟨Tryz.f122.name,by decide,Tryz.func122.trans (congrArg some (by kernel_rfl))⟩,
 f14:=⟨Tryz.f123.name,by decide,Tryz.func123.trans (congrArg some (by kernel_rfl))⟩,
 f15:=⟨Tryz.f124.name,by decide,Tryz.func124.trans (congrArg some (by kernel_rfl))⟩,
 f16:=⟨Tryz.f125.name,by decide,Tryz.func125.trans (congrArg some (by kernel_rfl))⟩,
 f17:=⟨Tryz.f126.name,by decide,Tryz.func126.trans (congrArg some (by kernel_rfl))⟩,
 f18:=⟨Tryz.f127.name,by decide,Tryz.func127.trans (congrArg some (by kernel_rfl))⟩,
 f19:=Tryz.func111.trans (congrArg some (by kernel_rfl)),
 f20:=Tryz.func112.trans (congrArg some (by kernel_rfl)),
 f30:=⟨Tryz.f146.name,by decide,Tryz.func146.trans (congrArg some (by kernel_rfl))⟩,
 f31:=Tryz.func139.trans (congrArg some (by kernel_rfl)),
 f32:=Tryz.func140.trans (congrArg some (by kernel_rfl)),
 f33:=⟨Tryz.f147.name,by decide,Tryz.func147.trans (congrArg some (by kernel_rfl))⟩,
 f34:=⟨Tryz.f148.name,by decide,Tryz.func148.trans (congrArg some (by kernel_rfl))⟩,
 f35:=⟨Tryz.f149.name,by decide,Tryz.func149.trans (congrArg some (by kernel_rfl))⟩,
 f40:=⟨Tryz.f158.name,by decide,Tryz.func158.trans (congrArg some (by kernel_rfl))⟩,
 t0:=Tryz.underlying0,
 a0:=Tryz.isAgg0,
 z0:=Tryz.sizeOf0,
 v0:=Tryz.zeroValue0,
 t3:=Tryz.underlying3,
 a3:=Tryz.isAgg3,
 z3:=Tryz.sizeOf3,
 v3:=Tryz.zeroValue3,
 t4:=Tryz.underlying4,
 a4:=Tryz.isAgg4,
 z4:=Tryz.sizeOf4,
 v4:=Tryz.zeroValue4,
 t5:=Tryz.underlying5,
 a5:=Tryz.isAgg5,
 z5:=Tryz.sizeOf5,
 v5:=Tryz.zeroValue5,
 t9:=Tryz.underlying9,
 a9:=Tryz.isAgg9,
 z9:=Tryz.sizeOf9,
 v9:=Tryz.zeroValue9,
 t22:=Tryz.underlying26,
 a22:=Tryz.isAgg26,
 z22:=Tryz.sizeOf26,
 v22:=Tryz.zeroValue26,
 t23:=Tryz.underlying26,
 a23:=Tryz.isAgg26,
 z23:=Tryz.sizeOf26,
 v23:=Tryz.zeroValue26,
 t25:=Tryz.underlying3,
 a25:=Tryz.isAgg3,
 z25:=Tryz.sizeOf3,
 v25:=Tryz.zeroValue3,
 t32:=Tryz.underlying118,
 a32:=Tryz.isAgg118,
 z32:=Tryz.sizeOf118,
 v32:=Tryz.zeroValue118,
 t35:=Tryz.underlying137,
 a35:=Tryz.isAgg137,
 z35:=Tryz.sizeOf137,
 v35:=Tryz.zeroValue137,
 t36:=Tryz.underlying138,
 a36:=Tryz.isAgg138,
 z36:=Tryz.sizeOf138,
 v36:=Tryz.zeroValue138,
 t41:=Tryz.underlying143,
 a41:=Tryz.isAgg143,
 z41:=Tryz.sizeOf143,
 v41:=Tryz.zeroValue143,
 t44:=Tryz.underlying22,
 a44:=Tryz.isAgg22,
 z44:=Tryz.sizeOf22,
 v44:=Tryz.zeroValue22,
 t46:=Tryz.underlying147,
 a46:=Tryz.isAgg147,
 z46:=Tryz.sizeOf147,
 v46:=Tryz.zeroValue147,
 t53:=Tryz.underlying167,
 a53:=Tryz.isAgg167,
 z53:=Tryz.sizeOf167,
 v53:=Tryz.zeroValue167,
 t57:=Tryz.underlying171,
 a57:=Tryz.isAgg171,
 z57:=Tryz.sizeOf171,
 v57:=Tryz.zeroValue171,
 t63:=Tryz.underlying184,
 a63:=Tryz.isAgg184,
 z63:=Tryz.sizeOf184,
 v63:=Tryz.zeroValue184,
 t64:=Tryz.underlying185,
 a64:=Tryz.isAgg185,
 z64:=Tryz.sizeOf185,
 v64:=Tryz.zeroValue185 }
end Go.Proofs
