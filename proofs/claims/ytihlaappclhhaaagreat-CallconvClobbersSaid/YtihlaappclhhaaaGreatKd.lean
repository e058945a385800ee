/-
  Part 4 of the proof: how the calls of this program run, over values instead of memory, and what each function computes.
-/
import Derived.IntWalk
import Derived.ProofKit
import Derived.Test.YtihlaappclhhaaaGreatKc
set_option maxRecDepth 100000
set_option linter.unusedVariables false
set_option linter.unusedSimpArgs false
set_option linter.unnecessarySimpa false
set_option linter.unusedSectionVars false
open Nat renaming beq→Wa,blt→Wk,blt_eq→Wl,zero_le→Wr,le_of_ble_eq_true→Ws,not_lt_zero→Wu,add_sub_cancel_left→WA
open List renaming replicate→Wc,getElem?_eq_getElem→Wd,getElem?_map→Wh,range→Wi,mem_of_getElem?→Wj,map_cons→Wm,mem_cons→Wo,all_eq_true→Wq,getD_eq_getElem?_getD→Wv,getElem_mem→Ww,ext_getElem?→Wy,cons_append→Wz,getElem?_append_left→WB,getElem?_eq_some_iff→WC,take_add_one→WE
open Option renaming map_eq_some_iff→We,bind_some→Wx,bind_eq_some_iff→WD
open Bool renaming and_eq_true→Wf,false_ne_true→Wp,not_eq_true'→Wt
open Option.some renaming injEq→Wg
open Prod.mk renaming injEq→Wn
namespace Go.Ab
open Go.RowKit
def nos:Nat→Nat→Option (Nat × Nat × Nat):=fun _ _=>none
def allR:Nat→Nat→Prop:=fun _ _=>True
def noR:Nat→Nat→Prop:=fun _ _=>False
abbrev Frz(H:AH)(v a:AV):Prop:=Vw H [] nos allR false v a
def zz(P:Program)(f:FuncId)(args:List AV)(Q:AV→Prop):Prop :=
 zU P f args [] 0 (fun v H' _=>∃a,Frz H' v a∧Q a)
inductive Lend(H:AH)(D:Nat→Nat→Prop):List AV→List AV→Prop
 | nil:Lend H D [] []
 | cons {a b asv bs} (h:Vw H [] nos D false a b) (t:Lend H D asv bs):Lend H D (a::asv) (b::bs)
section
variable {P:Program} {w w':World} {L:Nat→Prop} {ι:Inj} {H:AH} {nx:Nat} {D:Nat→Nat→Prop}
theorem zU.mono{f:FuncId}{args:List AV}{Q Q':AV→AH→Nat→Prop}(h:zU P f args H nx Q)(hq:∀v H nx,Q v H nx→Q' v H nx):zU P f args H nx Q':=by
 intro w L ι vs h1 h2
 exact(h w L ι vs h1 h2).mono fun e w' ⟨v,ι',H',nx',a,h3,h4,h5,h6,h7⟩=>⟨v,ι',H',nx',a,h3,h4,h5,h6,hq _ _ _ h7⟩
theorem zeZ.ok{f:FuncId}{args:List AV}{a:AV}{k:AV→AH→Nat→Prop}(h:zeZ P f args H nx a)(hk:k a H nx):zU P f args H nx k:=by
 intro w L ι vs h1 h2
 exact(h w L ι vs h1 h2).mono fun e w' ⟨v,h3,h4,h5⟩=>⟨v,ι,H,nx,a,h3,h4,Nat.le_refl _,h5,hk⟩
def zlZ(L:Nat→Prop)(ι:Inj)(H:AH)(D:Nat→Nat→Prop):Nat→Prop:=fun b=>Lt L ι H b∧¬ ∃r q sz els g l,D r q∧H.get r q=some (.row sz els g)∧ι r q g=some l∧0 < l.cap * l.sz∧l.block=b
theorem zys(rel:RelH w L ι H nx):∀b,zlZ L ι H D b→b < w.heap.size:=by
 rintro b ⟨h|h,_⟩
 · exact rel.Lsz b h
 · exact rel.live_lt h
theorem Lend.vrs(rel:RelH w L ι H nx){asv bs:List AV}(h:Lend H D asv bs):∀{vs:List Value},VRs w (Lt L ι H) ι vs asv→VRs w (Lt (zlZ L ι H D) noI []) noI vs bs:=by
 induction h with
 | nil=>intro vs h;cases h;exact .nil
 |
  cons h _ ih =>
  intro vs hv
  cases hv with
  |
   cons h1 h2 =>
   refine .cons ?_ (ih h2)
   exact(h.sound rel (M:=Lt (zlZ L ι H D) noI []) (fun b hb=>by rcases hb with hb|hb;exact hb.1;exact(zoF b hb).elim)
    (fun r q sz els g l a1 a2 a3 a4 a5=>by rcases a5 with hb|hb;exact hb.2 ⟨r,q,sz,els,g,l,a1,a2,a3,a4,rfl⟩;exact(zoF _ hb).elim) _ h1)
def AV.scal0:AV→Bool
 | .undef | .int .. | .bool _ | .str _ | .nilp | .nilfn | .nilsl | .cut=>true
 | _=>false
def AV.scal:AV→Bool
 | .agg l=>l.all AV.scal0
 | .tup l=>l.all AV.scal0
 | a=>a.scal0
theorem zwK{M M':Nat→Prop}{ι ι':Inj}{v:Value}{a:AV}(ha:a.scal0=true)(h:VR w M ι v a):VR w M' ι' v a:=by
 cases h<;>first | (cases ha;done) | (constructor<;>assumption)
theorem zE6{M M':Nat→Prop}{ι ι':Inj}{v:Value}{a:AV}(ha:a.scal=true)(h:VR w M ι v a):VR w M' ι' v a:=by
 cases h with
 | agg _ cs asv hs h1 hv=>exact .agg _ _ _ hs h1 (fun i v a h2 h3=>zwK (Wq.1 ha a (Wj h3)) (hv i v a h2 h3))
 | tup _ cs asv hs hv=>exact .tup _ _ _ hs (fun i v a h2 h3=>zwK (Wq.1 ha a (Wj h3)) (hv i v a h2 h3))
 | undef=>exact .undef _ _
 | int _ _ _ h=>exact .int _ _ _ h
 | bool=>exact .bool _ _
 | str _ _ h=>exact .str _ _ h
 | nilp=>exact .nilp _
 | nilfn=>exact .nilfn _
 | nilsl=>exact .nilsl _
 | cut=>exact .cut _ _
 | _=>cases ha
theorem zul {f:FuncId} {asv bs:List AV} {Q:AV→Prop} (h:zz P f bs Q) (ha:Lend H D asv bs) (hr:∀a,Q a→a.scal=true∨∀r q,¬D r q)
  {vs:Array Value} (rel:RelH w L ι H nx) (hv:VRs w (Lt L ι H) ι vs.toList asv) :
  Calls P f vs w (fun e w'=>∃v a,e=.returned v∧Step w L ι H nx w' ι H nx∧VR w' (Lt L ι H) ι v a∧Q a):=by
 refine(h w (zlZ L ι H D) noI vs (.empty (zys rel)) (ha.vrs rel hv)).mono fun e w' ⟨v,ι',H',nx',a0,h3,h4,_,h6,a,h7,h8⟩=>?_
 have hsame:∀b,b < w.heap.size→w'.heap[b]? = w.heap[b]? := fun b hb=>h4.ext.block b hb (zoF b)
 refine⟨v,a,h3,⟨⟨h4.ext.os,h4.ext.tape,h4.ext.output,h4.ext.size,fun b hb _=>hsame b hb⟩,fun _ _ _ _ h=>h,rel.grow h4.ext.size hsame,fun b hb=>.inl hb⟩,?_,h8⟩
 have key:VR w' (zlZ L ι H D) noI v a:=by refine h7.sound h4.rel (M:=zlZ L ι H D) (fun b hb=>.inl hb) (fun r q sz els g l _ a2 a3 a4 a5=>?_) v h6;exact h4.rel.out _ ⟨r,q,sz,els,g,l,a2,a3,a4,rfl⟩ a5
 rcases hr a h8 with hs|hd
 · exact zE6 hs key
 ·
  have:zlZ L ι H D=Lt L ι H:=by
   funext b
   simp[zlZ,hd]
  rw[this] at key;exact key.mono (fun b _ hb=>⟨rfl,hb⟩) (fun _ _ _ _ h=>by cases h)
theorem zaH{f:FuncId}{asv bs:List AV}{r:AV}(h:zz P f bs (·=r))(ha:Lend H D asv bs)(hr:r.scal=true∨∀r q,¬D r q):zeZ P f asv H nx r:=by
 intro w L ι vs rel hv
 exact(zul h ha (fun a e=>by subst e;exact hr) rel hv).mono fun e w' ⟨v,a,h1,h2,h3,h4⟩=>⟨v,h1,h2,by rw[←h4];exact h3⟩
theorem zAP{f:FuncId}{asv bs:List AV}{Q:AV→Prop}{k:AV→AH→Nat→Prop}(h:zz P f bs Q)(ha:Lend H D asv bs)(hr:∀a,Q a→a.scal=true∨∀r q,¬D r q)(hk:∀v,Q v→k v H nx):
  zU P f asv H nx k:=by
 intro w L ι vs rel hv
 exact(zul h ha hr rel hv).mono fun e w' ⟨v,a,h1,h2,h3,h4⟩=>⟨v,ι,H,nx,a,h1,h2,Nat.le_refl _,h3,hk a h4⟩
def AObj.ren(ρ:Nat→Nat):AObj→AObj
 | .row sz els g=>.row sz (els.map (·.map (AV.ren ρ))) g
 | .fam sz ins=>.fam sz (ins.map fun p=>(p.1.map (·.map (AV.ren ρ)),p.2))
theorem AObj.part_ren(ρ:Nat→Nat)(o:AObj)(q:Nat):(o.ren ρ).part q=(o.part q).map (AObj.ren ρ):=by
 cases o with
 | row sz els g=>cases q<;>rfl
 |
  fam sz ins =>
  cases q with
  | zero=>rfl
  |
   succ i =>
   simp only[AObj.ren,AObj.part,Wh,Option.map_map]
   cases ins[i]? <;> rfl
end
def wpX(P:Program)(B:Nat)(c:ACode)(Q:QT)(K:Kn)(H:AH)(nx:Nat):Prop:=awp P B c Q K H nx
def seqQ(P:Program)(B:Nat)(b:ACode)(Q:QT):QT:=fun e K H nx=>match e with
 | .normal=>awp P B b Q K H nx
 | e=>Q e K H nx
def zd4(id:Nat)(Q:QT):QT:=fun e K H nx=>match e with
 | .exit id'=>bif Wa id' id then Q .normal K H nx else Q (.exit id') K H nx
 | e=>Q e K H nx
def zs7(P:Program)(B:Nat)(t:Bool)(a b:ACode)(Q:QT)(K:Kn)(H:AH)(nx:Nat):Prop:=zhf t (awp P B a Q K H nx) (awp P B b Q K H nx)
def zBP(P:Program)(B:Nat)(v:AV)(a b:ACode)(Q:QT)(K:Kn)(H:AH)(nx:Nat):Prop:=match v with
 | .bool t=>zhf t (awp P B a Q K H nx) (awp P B b Q K H nx)
 | _=>False
def zno(P:Program)(B:Nat)(c:ACode)(Q:QT)(K:Kn)(H:AH)(nx:Nat):Prop:=zD2 B (awp P B c) Q K H nx
def markX(P:Program)(B:Nat)(c:ACode)(Q:QT)(K:Kn)(H:AH)(nx:Nat):Prop:=zDW B (awp P B c Q) K H nx
def zFj(P:Program)(B:Nat)(a b:ACode)(Q:QT)(K:Kn)(H:AH)(nx:Nat):Prop:=zD5 B (awp P B a) (awp P B b Q) Q K H nx
def zwR(P:Program)(B:Nat)(ps:List Nat)(v:AV)(a b:ACode)(Q:QT)(K:Kn)(H:AH)(nx:Nat):Prop:=zAe P B (fun N=>awp P N a) (fun N=>awp P N b) ps Q v K H nx
def jumpX(P:Program)(B l:Nat)(a b:ACode)(Q:QT)(K:Kn)(H:AH)(nx:Nat):Prop:=zD4 B l (awp P B a) (awp P B b) Q K H nx
inductive Rest where
 | ops (os:List AOper)
 | tree (t:DTree)
def za0(P:Program)(r:Rest)(drop:List Nat)(Q:QT)(K:Kn)(H:AH)(nx:Nat):Prop:=match r with
 | .ops os=>aops P os drop Q K H nx
 | .tree t=>awpT P t drop Q K H nx
def Rest.fx:Rest→Bool
 | .ops _=>true
 | .tree _=>false
def zBg(P:Program)(d:Option Nat)(r:Rest)(drop:List Nat)(Q:QT)(K:Kn):AV→AH→Nat→Prop:=fun v H nx=>za0 P r drop Q (setO K d v) H nx
def opX(P:Program)(op:AOp)(d:Option Nat)(r:Rest)(drop:List Nat)(Q:QT)(K:Kn)(H:AH)(nx:Nat):Prop:=zdG P r.fx op K.get H nx (zBg P d r drop Q K)
def resX(P:Program)(o:ORes)(d:Option Nat)(r:Rest)(drop:List Nat)(Q:QT)(K:Kn):Prop:=znU r.fx o (zBg P d r drop Q K)
def zsQ(P:Program)(d:Option Nat)(r:Rest)(drop:List Nat)(Q:QT)(K:Kn):AV→AH→Nat→Prop:=fun v H nx=>(bif r.fx then v.wf else True)→za0 P r drop Q (setO K d v) H nx
def zyj(P:Program)(f:FuncId)(args:List AV)(H:AH)(nx:Nat)(k:AV→AH→Nat→Prop):Prop:=zU P f args H nx k
def zzh(P:Program)(f:FuncId)(args:List AV)(d:Option Nat)(r:Rest)(drop:List Nat)(Q:QT)(K:Kn)(H:AH)(nx:Nat):Prop:=CallQ P f args H nx (fun v=>za0 P r drop Q (setO K d v) H nx)
def zpt(P:Program)(x:AV)(args:List AV)(H:AH)(nx:Nat)(k:AV→AH→Nat→Prop):Prop:=match x with
 | .fn (.func f) caps=>zf7 P f=true∧zU P f (args++caps) H nx k
 | _=>False
def nilX(P:Program)(b:Option (Option Bool))(neg:Bool)(d:Option Nat)(r:Rest)(drop:List Nat)(Q:QT)(K:Kn)(H:AH)(nx:Nat):Prop:=match b with
 | some (some b)=>za0 P r drop Q (setO K d (.bool (b != neg))) H nx
 | some none=>∀b,za0 P r drop Q (setO K d (.bool b)) H nx
 | none=>False
def zCi(P:Program)(x:AV)(d:Option Nat)(r:Rest)(drop:List Nat)(Q:QT)(K:Kn)(H:AH)(nx:Nat):Prop:=zm0 x H nx (zBg P d r drop Q K)
def app2X(P:Program)(s b:Nat)(x y:AV)(d:Option Nat)(r:Rest)(drop:List Nat)(Q:QT)(K:Kn)(H:AH)(nx:Nat):Prop:=znI s b x y H nx (zBg P d r drop Q K)
def zlt(P:Program)(t:Bool)(op:AOp)(d:Option Nat)(r:Rest)(drop:List Nat)(Q:QT)(K:Kn)(H:AH)(nx:Nat):Prop:=zhf t (opX P op d r drop Q K H nx) (za0 P r drop Q (setO K d (.tup [])) H nx)
def zi1(P:Program)(v:AV)(want:Bool)(op:AOp)(d:Option Nat)(r:Rest)(drop:List Nat)(Q:QT)(K:Kn)(H:AH)(nx:Nat):Prop:=match grd want v with
 | some b=>zlt P b op d r drop Q K H nx
 | none=>False
section
variable {P:Program} {B:Nat} {Q:QT} {K:Kn} {H:AH} {nx:Nat} {drop:List Nat} {os:List AOper} {d:Option Nat} {r:Rest}
theorem zCk:wpX P B .skip Q K H nx=Q .normal K H nx:=rfl
theorem zyf:wpX P B (.region os drop) Q K H nx=za0 P (.ops os) drop Q K H nx:=rfl
theorem zDg{t:DTree}:wpX P B (.draw t drop) Q K H nx=za0 P (.tree t) drop Q K H nx:=rfl
theorem zEO{a b:ACode}:wpX P B (.seq a b) Q K H nx=wpX P B a (seqQ P B b Q) K H nx:=rfl
theorem zDJ{c:AOpd}{a b:ACode}:wpX P B (.cond c a b) Q K H nx=zBP P B (ev K.get c) a b Q K H nx:=rfl
theorem zzd{id:Nat}{c:ACode}:wpX P B (.block id c) Q K H nx=wpX P B c (zd4 id Q) K H nx:=rfl
theorem zCm{c:ACode}:wpX P B (.loop c) Q K H nx=zno P B c Q K H nx:=rfl
theorem zB8{id:Nat}:wpX P B (.exit id) Q K H nx=Q (.exit id) K H nx:=rfl
theorem zEZ:wpX P B .ret Q K H nx=Q .ret K H nx:=rfl
theorem zDL{n:Nat}{c:ACode}:wpX P B (.mark n c) Q K H nx=markX P B c Q K H nx:=rfl
theorem zAd{c:ACode}:wpX P B (.scope c) Q K H nx=wpX P B c (noGQ Q) K H nx:=rfl
theorem zzn{l:Nat}:wpX P B (.label l) Q K H nx=Q .normal K H nx:=rfl
theorem zDI{l:Nat}:wpX P B (.goto l) Q K H nx=Q (.goto l) K H nx:=rfl
theorem zCT{l:Nat}{a b:ACode}:wpX P B (.jump l a b) Q K H nx=jumpX P B l a b Q K H nx:=rfl
theorem zAj{g:AOpd}{ps:List Nat}{a b:ACode}:wpX P B (.range g ps a b) Q K H nx=zwR P B ps (ev K.get g) a b Q K H nx:=rfl
theorem zCx{a b:ACode}:wpX P B (.join a b) Q K H nx=zFj P B a b Q K H nx:=rfl
theorem zvI{b:ACode}:seqQ P B b Q .normal K H nx=wpX P B b Q K H nx:=rfl
theorem zCH{b:ACode}:seqQ P B b Q .ret K H nx=Q .ret K H nx:=rfl
theorem zAx{b:ACode}{l:Nat}:seqQ P B b Q (.goto l) K H nx=Q (.goto l) K H nx:=rfl
theorem zzM{b:ACode}{id:Nat}:seqQ P B b Q (.exit id) K H nx=Q (.exit id) K H nx:=rfl
theorem ztl{id:Nat}:zd4 id Q .normal K H nx=Q .normal K H nx:=rfl
theorem zwu{id l:Nat}:zd4 id Q (.goto l) K H nx=Q (.goto l) K H nx:=rfl
theorem zwA:noGQ Q .normal K H nx=Q .normal K H nx:=rfl
theorem zDl:noGQ Q .ret K H nx=Q .ret K H nx:=rfl
theorem zAL{id:Nat}:noGQ Q (.exit id) K H nx=Q (.exit id) K H nx:=rfl
theorem zyR{id:Nat}:zd4 id Q .ret K H nx=Q .ret K H nx:=rfl
theorem zvn{id id':Nat}:zd4 id Q (.exit id') K H nx=bif Wa id' id then Q .normal K H nx else Q (.exit id') K H nx:=rfl
theorem zyL{t:Bool}{a b:ACode}:zBP P B (.bool t) a b Q K H nx=zs7 P B t a b Q K H nx:=rfl
theorem zyv{a b:ACode}:zs7 P B true a b Q K H nx=wpX P B a Q K H nx:=by unfold zs7;rw[zhf.true];rfl
theorem zwa{a b:ACode}:zs7 P B false a b Q K H nx=wpX P B b Q K H nx:=by unfold zs7;rw[zhf.false];rfl
theorem zw{t:Bool}{a b:ACode}(h1:t=true→wpX P B a Q K H nx)(h2:t=false→wpX P B b Q K H nx):zs7 P B t a b Q K H nx:=⟨h1,h2⟩
theorem zDO{rs:List ARet}{Post:AV→AH→Nat→Prop}:retK rs Post .ret K H nx=(zcK K H nx rs∧Post (zow (zb2 K H nx rs)) H nx):=rfl
theorem zws{rs:List ARet}{Post:AV→AH→Nat→Prop}:retK rs Post .normal K H nx=(zcK K H nx rs∧Post (zow (zb2 K H nx rs)) H nx):=rfl
theorem zzy:za0 P (.ops []) drop Q K H nx=Q .normal (K.drop drop) H nx:=rfl
theorem zyb{op:AOp}:za0 P (.ops (⟨d,op,none⟩::os)) drop Q K H nx=opX P op d (.ops os) drop Q K H nx:=rfl
theorem zvQ{op:AOp}{t:Nat}{want:Bool}:za0 P (.ops (⟨d,op,some (t,want)⟩::os)) drop Q K H nx=zi1 P (K.get t) want op d (.ops os) drop Q K H nx:=rfl
theorem zyF:za0 P (.tree .done) drop Q K H nx=Q .normal (K.drop drop) H nx:=rfl
theorem zyW:za0 P (.tree .stop) drop Q K H nx=True:=rfl
theorem zyZ{op:AOp}{t:DTree}:za0 P (.tree (.step ⟨d,op,none⟩ t)) drop Q K H nx=opX P op d (.tree t) drop Q K H nx:=rfl
theorem zvL{op:AOp}{t:DTree}{g:Nat}{want:Bool}:za0 P (.tree (.step ⟨d,op,some (g,want)⟩ t)) drop Q K H nx=zi1 P (K.get g) want op d (.tree t) drop Q K H nx:=rfl
theorem zAt{op:AOp}{t u:DTree}:za0 P (.tree (.alt ⟨d,op,none⟩ t u)) drop Q K H nx=(opX P op d (.tree t) drop Q K H nx∧za0 P (.tree u) drop Q K H nx):=rfl
theorem zyJ{op:AOp}{t u:DTree}{g:Nat}{want:Bool}:za0 P (.tree (.alt ⟨d,op,some (g,want)⟩ t u)) drop Q K H nx=(zi1 P (K.get g) want op d (.tree t) drop Q K H nx∧za0 P (.tree u) drop Q K H nx):=rfl
theorem zye{op:AOp}{b:Bool}:zi1 P (.bool b) true op d r drop Q K H nx=zlt P b op d r drop Q K H nx:=by unfold zi1;cases b<;>rfl
theorem zBj{op:AOp}{b:Bool}:zi1 P (.bool b) false op d r drop Q K H nx=zlt P (!b) op d r drop Q K H nx:=by unfold zi1;cases b<;>rfl
theorem zvw{op:AOp}{want:Bool}:zi1 P (.tup []) want op d r drop Q K H nx=za0 P r drop Q (setO K d (.tup [])) H nx:=by unfold zi1 grd zlt;simp only[zhf.false]
theorem zvS{op:AOp}:zlt P true op d r drop Q K H nx=opX P op d r drop Q K H nx:=by unfold zlt;rw[zhf.true]
theorem zuK{op:AOp}:zlt P false op d r drop Q K H nx=za0 P r drop Q (setO K d (.tup [])) H nx:=by unfold zlt;rw[zhf.false]
theorem zCh{s f:Prop}{v:AV}{H':AH}{nx':Nat}:resX P ⟨s,f,v,H',nx'⟩ d (.ops os) drop Q K=(s∧(f→za0 P (.ops os) drop Q (setO K d v) H' nx')):=rfl
theorem zAR{s f:Prop}{v:AV}{H':AH}{nx':Nat}{t:DTree}:resX P ⟨s,f,v,H',nx'⟩ d (.tree t) drop Q K=(s∧za0 P (.tree t) drop Q (setO K d v) H' nx'):=by unfold resX znU Rest.fx;simp only[cond_false,true_implies];rfl
theorem zEP{x:AOpd}:opX P (.mov x) d r drop Q K H nx=za0 P r drop Q (setO K d (ev K.get x)) H nx:=by
 unfold opX zdG znU aop
 cases r<;>simp only[Rest.fx,cond_true,cond_false,true_implies,true_and]<;>rfl
theorem zz1{s:Nat}:opX P (.mknil s) d r drop Q K H nx=za0 P r drop Q (setO K d (.own nx 0 0 0 0)) (H.set nx 0 (.row s [] 0)) (nx+1):=by
 unfold opX zdG znU aop zqk
 cases r<;>simp only[Rest.fx,cond_true,cond_false,true_implies,true_and]<;>rfl
theorem zDd{c x y:AOpd}:opX P (.pick c x y) d r drop Q K H nx=resX P (zpR (ev K.get c) (ev K.get x) (ev K.get y) H nx) d r drop Q K:=rfl
theorem zB2{g:Bool}{n:Nat}{p:AOpd}:opX P (.load g n p) d r drop Q K H nx=resX P (zfo g n (ev K.get p) H nx) d r drop Q K:=rfl
theorem zAl{n:Nat}{p v:AOpd}:opX P (.store n p v) d r drop Q K H nx=resX P (zhu n (ev K.get p) (ev K.get v) H nx) d r drop Q K:=rfl
theorem zEV{s:Nat}{x i:AOpd}:opX P (.idx s x i) d r drop Q K H nx=resX P (idxR s (ev K.get x) (ev K.get i) H nx) d r drop Q K:=rfl
theorem zwB{o n:Nat}{x:AOpd}:opX P (.fldaddr o n x) d r drop Q K H nx=resX P (zeg o n (ev K.get x) H nx) d r drop Q K:=rfl
theorem zFr{o n:Nat}{g:Bool}{x:AOpd}:opX P (.fld o n g x) d r drop Q K H nx=resX P (fldR o n g (ev K.get x) H nx) d r drop Q K:=rfl
theorem zEs{x:AOpd}:opX P (.len x) d r drop Q K H nx=resX P (lenR (ev K.get x) H nx) d r drop Q K:=rfl
theorem zBY{x:AOpd}:opX P (.slen x) d r drop Q K H nx=resX P (zrD (ev K.get x) H nx) d r drop Q K:=rfl
theorem zE3{o:BinOp}{x y:AOpd}:opX P (.bin o x y) d r drop Q K H nx=resX P (binI o (ev K.get x) (ev K.get y) H nx) d r drop Q K:=rfl
theorem zEc{n:Bool}{x y:AOpd}:opX P (.eqb n x y) d r drop Q K H nx=resX P (eqB n (ev K.get x) (ev K.get y) H nx) d r drop Q K:=rfl
theorem opX_un{o:UnOp}{x:AOpd}:opX P (.un o x) d r drop Q K H nx=resX P (unR o (ev K.get x) H nx) d r drop Q K:=rfl
theorem zDC{k:IntKind}{x:AOpd}:opX P (.conv k x) d r drop Q K H nx=resX P (zqa k (ev K.get x) H nx) d r drop Q K:=rfl
theorem zAE{z:List AV}{ps:List (Nat × Nat × AOpd)}:opX P (.build z ps) d r drop Q K H nx=resX P (zli z (ze7 K.get ps) H nx) d r drop Q K:=rfl
theorem zvU{s l:Nat}{z:List AV}{ps:List (Nat × AOpd)}:opX P (.buildSl s l z ps) d r drop Q K H nx=resX P (zgf s l z (zkh K.get ps) H nx) d r drop Q K:=rfl
theorem zFu{x:AOpd}:opX P (.box x) d r drop Q K H nx=resX P (boxR (ev K.get x) H nx) d r drop Q K:=rfl
theorem zCZ{x:AOpd}:opX P (.rbox x) d r drop Q K H nx=resX P (zrt (ev K.get x) H nx) d r drop Q K:=rfl
theorem zt7{s l:Nat}{z:List AV}{ps:List (Nat × AOpd)}:opX P (.rbuildSl s l z ps) d r drop Q K H nx=resX P (zel s l z (zkh K.get ps) H nx) d r drop Q K:=rfl
theorem zBJ{x:AOpd}:opX P (.mnext x) d r drop Q K H nx=zCi P (ev K.get x) d r drop Q K H nx:=rfl
theorem zvd{s b:Nat}{x y:AOpd}:opX P (.append2 s b x y) d r drop Q K H nx=app2X P s b (ev K.get x) (ev K.get y) d r drop Q K H nx:=rfl
theorem zz8{z:List AV}:opX P (.alloc z) d r drop Q K H nx=resX P (zn5 z H nx) d r drop Q K:=rfl
theorem zDr{s b:Nat}{z:List AV}{l c:AOpd}:opX P (.mksl s b z l c) d r drop Q K H nx=resX P (zo4 s b z (ev K.get l) (ev K.get c) H nx) d r drop Q K:=rfl
theorem zBM{s:Nat}{x:AOpd}{l h:Option AOpd}:opX P (.slice s x l h) d r drop Q K H nx=resX P (zhR s (ev K.get x) (evO K.get l) (evO K.get h) H nx) d r drop Q K:=rfl
theorem zEC{x:AOpd}:opX P (.cut x) d r drop Q K H nx=resX P (cutR (ev K.get x) H nx) d r drop Q K:=rfl
theorem zB6{f:Fn}{cs:List AOpd}:opX P (.mkfn f cs) d r drop Q K H nx=za0 P r drop Q (setO K d (.fn f (evs K.get cs))) H nx:=by
 unfold opX zdG znU aop
 cases r<;>simp only[Rest.fx,cond_true,cond_false,true_implies,true_and]<;>rfl
theorem zxV{s b:Nat}{x y:AOpd}:opX P (.append s b x y) d r drop Q K H nx=resX P (zhn s b (ev K.get x) (ev K.get y) H nx) d r drop Q K:=rfl
theorem zzl{s:Nat}{z:List AV}{x:AOpd}:opX P (.clear s z x) d r drop Q K H nx=resX P (zj0 s z (ev K.get x) H nx) d r drop Q K:=rfl
theorem zEJ{i:Nat}{x:AOpd}:opX P (.ext i x) d r drop Q K H nx=resX P (extR i (ev K.get x) H nx) d r drop Q K:=rfl
theorem zy6{n p:Bool}{x:AOpd}:opX P (.isnil n p x) d r drop Q K H nx=nilX P (nilB p (ev K.get x)) n d r drop Q K H nx:=rfl
theorem zDN{f:FuncId}{xs:List AOpd}:opX P (.call f xs) d r drop Q K H nx=zyj P f (evs K.get xs) H nx (zsQ P d r drop Q K):=rfl
theorem zzX{f:FuncId}{xs:List AOpd}:opX P (.callq f xs) d r drop Q K H nx=zzh P f (evs K.get xs) d r drop Q K H nx:=rfl
theorem zET{x:XOp}{xs:List AOpd}:opX P (.xop x xs) d r drop Q K H nx=resX P (xopR x (evs K.get xs) H nx) d r drop Q K:=rfl
theorem zz7{x:AOpd}{xs:List AOpd}:opX P (.callv x xs) d r drop Q K H nx=zpt P (ev K.get x) (evs K.get xs) H nx (zsQ P d r drop Q K):=rfl
theorem zlY{f:FuncId}{caps args:List AV}{k:AV→AH→Nat→Prop}:zpt P (.fn (.func f) caps) args H nx k=(zf7 P f=true∧zyj P f (args++caps) H nx k):=rfl
theorem zEi{b n:Bool}:nilX P (some (some b)) n d r drop Q K H nx=za0 P r drop Q (setO K d (.bool (b != n))) H nx:=rfl
theorem zCB{n:Bool}:nilX P (some none) n d r drop Q K H nx=∀b,za0 P r drop Q (setO K d (.bool b)) H nx:=rfl
theorem zzu{v:AV}{H':AH}{nx':Nat}:zsQ P d (.ops os) drop Q K v H' nx'=(v.wf→za0 P (.ops os) drop Q (setO K d v) H' nx'):=rfl
theorem zy2{v:AV}{H':AH}{nx':Nat}{t:DTree}:zsQ P d (.tree t) drop Q K v H' nx'=za0 P (.tree t) drop Q (setO K d v) H' nx':=by unfold zsQ Rest.fx;simp only[cond_false,true_implies]
theorem zi{f:FuncId}{args:List AV}{a:AV}{k:AV→AH→Nat→Prop}(h:zeZ P f args H nx a)(hk:k a H nx):zyj P f args H nx k:=h.ok hk
theorem zsn{f:FuncId}{args:List AV}{Q Q':AV→AH→Nat→Prop}(h:zU P f args H nx Q)(hq:∀v H nx,Q v H nx→Q' v H nx):zyj P f args H nx Q':=zU.mono h hq
theorem zG{f:FuncId}{args:List AV}{a:AV}(h:zeZ P f args H nx a)(hk:za0 P r drop Q (setO K d a) H nx):zzh P f args d r drop Q K H nx:=⟨a,h,hk⟩
def zrv(B:Nat){α:Type}(S:α→Kn × AH)(N:Nat)(inv:α→Prop)(μ:α→Nat)(a:α)(Q:QT):QT:=fun e K H nx=>match e with
 | .normal=>∃a',inv a'∧μ a' < μ a∧Ent B K H nx (S a').1 (S a').2 N
 | e=>Q e K H nx
theorem zuP{α:Type}{S:α→Kn × AH}{N:Nat}{inv:α→Prop}{μ:α→Nat}{a:α}:zrv B S N inv μ a Q .normal K H nx=∃a',inv a'∧μ a' < μ a∧Ent B K H nx (S a').1 (S a').2 N:=rfl
theorem zyA{α:Type}{S:α→Kn × AH}{N:Nat}{inv:α→Prop}{μ:α→Nat}{a:α}{l:Nat}:zrv B S N inv μ a Q (.goto l) K H nx=Q (.goto l) K H nx:=rfl
theorem zzZ{α:Type}{S:α→Kn × AH}{N:Nat}{inv:α→Prop}{μ:α→Nat}{a:α}:zrv B S N inv μ a Q .ret K H nx=Q .ret K H nx:=rfl
theorem zx4{α:Type}{S:α→Kn × AH}{N:Nat}{inv:α→Prop}{μ:α→Nat}{a:α}{id:Nat}:zrv B S N inv μ a Q (.exit id) K H nx=Q (.exit id) K H nx:=rfl
theorem zd {c:ACode} {α:Type} (S:α→Kn × AH) (N:Nat) (inv:α→Prop) (μ:α→Nat) (a0:α) (h0:inv a0) (he:Ent B K H nx (S a0).1 (S a0).2 N)
  (hb:∀a,inv a→WfK (S a).1→wpX P B c (zrv B S N inv μ a Q) (S a).1 (S a).2 N):zno P B c Q K H nx:=by
 refine⟨α,S,N,inv,μ,⟨a0,h0,he⟩,fun a ha hw=>?_⟩;have:=hb a ha hw;unfold wpX at this;refine Eq.mp (congrArg (fun q=>awp P B c q (S a).1 (S a).2 N) (funext fun e=>funext fun K=>funext fun H=>funext fun nx=>?_)) this
 cases e<;>rfl
def zrp(B:Nat){α:Type}(S:α→Kn × AH)(N:Nat)(inv:α→Prop)(Q:QT):QT:=fun e K H nx=>match e with
 | .normal=>∃a',inv a'∧Ent B K H nx (S a').1 (S a').2 N
 | e=>Q e K H nx
theorem zu0{α:Type}{S:α→Kn × AH}{N:Nat}{inv:α→Prop}:zrp B S N inv Q .normal K H nx=∃a',inv a'∧Ent B K H nx (S a').1 (S a').2 N:=rfl
theorem zyV{α:Type}{S:α→Kn × AH}{N:Nat}{inv:α→Prop}{l:Nat}:zrp B S N inv Q (.goto l) K H nx=Q (.goto l) K H nx:=rfl
theorem zBy{α:Type}{S:α→Kn × AH}{N:Nat}{inv:α→Prop}:zrp B S N inv Q .ret K H nx=Q .ret K H nx:=rfl
theorem zx2{α:Type}{S:α→Kn × AH}{N:Nat}{inv:α→Prop}{id:Nat}:zrp B S N inv Q (.exit id) K H nx=Q (.exit id) K H nx:=rfl
theorem zkI{a b:ACode}{α:Type}(S:α→Kn × AH)(N:Nat)(inv:α→Prop)(ha:wpX P B a (zrp B S N inv Q) K H nx)(hb:∀x,inv x→WfK (S x).1→wpX P B b Q (S x).1 (S x).2 N):zFj P B a b Q K H nx:=by
 refine⟨α,S,N,inv,?_,hb⟩;unfold wpX at ha;refine Eq.mp (congrArg (fun q=>awp P B a q K H nx) (funext fun e=>funext fun K=>funext fun H=>funext fun nx=>?_)) ha
 cases e<;>rfl
def zua(B l:Nat){α:Type}(S:α→Kn × AH)(N:Nat)(inv:α→Prop)(Q:QT):QT:=fun e K H nx=>match e with
 | .goto l'=>l'=l∧∃a',inv a'∧Ent B K H nx (S a').1 (S a').2 N
 | e=>Q e K H nx
def zt9(B l:Nat){α:Type}(S:α→Kn × AH)(N:Nat)(inv:α→Prop)(μ:α→Nat)(a:α)(Q:QT):QT:=fun e K H nx=>match e with
 | .goto l'=>l'=l∧∃a',inv a'∧μ a' < μ a∧Ent B K H nx (S a').1 (S a').2 N
 | e=>Q e K H nx
theorem zxO{l l':Nat}{α:Type}{S:α→Kn × AH}{N:Nat}{inv:α→Prop}:zua B l S N inv Q (.goto l') K H nx=(l'=l∧∃a',inv a'∧Ent B K H nx (S a').1 (S a').2 N):=rfl
theorem zuc{l:Nat}{α:Type}{S:α→Kn × AH}{N:Nat}{inv:α→Prop}:zua B l S N inv Q .normal K H nx=Q .normal K H nx:=rfl
theorem zA9{l:Nat}{α:Type}{S:α→Kn × AH}{N:Nat}{inv:α→Prop}:zua B l S N inv Q .ret K H nx=Q .ret K H nx:=rfl
theorem zxR{l id:Nat}{α:Type}{S:α→Kn × AH}{N:Nat}{inv:α→Prop}:zua B l S N inv Q (.exit id) K H nx=Q (.exit id) K H nx:=rfl
theorem zyo{l l':Nat}{α:Type}{S:α→Kn × AH}{N:Nat}{inv:α→Prop}{μ:α→Nat}{a:α}:zt9 B l S N inv μ a Q (.goto l') K H nx=(l'=l∧∃a',inv a'∧μ a' < μ a∧Ent B K H nx (S a').1 (S a').2 N):=rfl
theorem zuW{l:Nat}{α:Type}{S:α→Kn × AH}{N:Nat}{inv:α→Prop}{μ:α→Nat}{a:α}:zt9 B l S N inv μ a Q .normal K H nx=Q .normal K H nx:=rfl
theorem zBD{l:Nat}{α:Type}{S:α→Kn × AH}{N:Nat}{inv:α→Prop}{μ:α→Nat}{a:α}:zt9 B l S N inv μ a Q .ret K H nx=Q .ret K H nx:=rfl
theorem zyU{l id:Nat}{α:Type}{S:α→Kn × AH}{N:Nat}{inv:α→Prop}{μ:α→Nat}{a:α}:zt9 B l S N inv μ a Q (.exit id) K H nx=Q (.exit id) K H nx:=rfl
def asgQ(P:Program)(N:Nat)(b:ACode)(R:QT):QT:=fun e K H nx=>match e with
 | .normal=>awp P N b R K H nx
 | _=>False
def rngQ{σ α:Type}(B:Nat)(K1:Kn)(S:α→AH)(N:Nat)(inv:α→σ→Prop)(invx:α→AExit→Prop)(s':σ):QT:=fun e K H nx=>match e with
 | .normal=>∃a',inv a' s'∧Ent B K1 H nx K1 (S a') N
 | .goto _=>False
 | e=>∃a',invx a' e∧Ent B K1 H nx K1 (S a') N
theorem zvm {ps:List Nat} {f:FuncId} {caps:List AV} {a b:ACode} {σ α:Type} {next:σ→Option (List AV × σ)} {ok:σ→Prop} {s0:σ} (nc:Nat) (Hc:AH) (R:Option σ→AH→Prop)
  (hgood:zf7 P f=true) (hcaps:∀c∈caps,AV.Below nc c) (hit:ItOk P f caps Hc nc next ok s0 (fun s H' _=>(match s with|some s=>next s=none|none=>True)∧R s (AH.upto H' nc))) (hlen:∀s x s',next s=some (x,s')→x.length=ps.length)
  (K1:Kn) (S:α→AH) (N:Nat) (inv:α→σ→Prop) (invx:α→AExit→Prop) (a0:α) (hnc:nc≤B∧LowH nc Hc∧(∀s H',R s H'→LowH nc H')∧(∀a,HighH nc (S a))∧(∀i,AV.From nc (K1.get i))) (hok:∀y s,inv y s→ok s) (h0:inv a0 s0) (he:Ent B K H nx K1 (Hc++S a0) N)
  (hround:∀y s x s',inv y s→next s=some (x,s')→WfK (zlP K1 ps x)→wpX P N a (asgQ P N b (rngQ B K1 S N inv invx s')) (zlP K1 ps x) (S y) N)
  (hdone:∀y s H',inv y s→next s=none→R (some s) H'→Q .normal K1 (H'++S y) N) (hx:∀y e H',invx y e→R none H'→Q e K1 (H'++S y) N):zwR P B ps (.fn (.func f) caps) a b Q K H nx:=by
 refine⟨σ,f,caps,next,ok,s0,α,K1,S,N,inv,invx,nc,Hc,R,rfl,hgood,hcaps,hit,hok,hlen,hnc,⟨a0,h0,he⟩,fun y s x s' h1 h2 h3=>?_,hdone,hx⟩;have:=hround y s x s' h1 h2 h3;unfold wpX at this;refine Eq.mp (congrArg (fun q=>awp P N a q (zlP K1 ps x) (S y) N) (funext fun e=>funext fun K=>funext fun H=>funext fun nx=>?_)) this
 cases e with
 |
  normal =>
  show awp P N b (rngQ B K1 S N inv invx s') K H nx=_;refine congrArg (fun q=>awp P N b q K H nx) (funext fun e=>funext fun K=>funext fun H=>funext fun nx=>?_)
  cases e<;>rfl
 | _=>rfl
theorem zuj {ps:List Nat} {f:FuncId} {caps:List AV} {a b:ACode} {σ α:Type} {next:σ→Option (List AV × σ)} {ok:σ→Prop} {s0:σ}
  (hgood:zf7 P f=true) (hcaps:∀c∈caps,AV.Below 0 c) (hit:ItOk P f caps [] 0 next ok s0 (fun s _ _=>match s with|some s=>next s=none|none=>True)) (hlen:∀s x s',next s=some (x,s')→x.length=ps.length)
  (K1:Kn) (S:α→AH) (N:Nat) (inv:α→σ→Prop) (invx:α→AExit→Prop) (a0:α) (hok:∀y s,inv y s→ok s) (h0:inv a0 s0) (he:Ent B K H nx K1 (S a0) N)
  (hround:∀y s x s',inv y s→next s=some (x,s')→WfK (zlP K1 ps x)→wpX P N a (asgQ P N b (rngQ B K1 S N inv invx s')) (zlP K1 ps x) (S y) N)
  (hdone:∀y s,inv y s→next s=none→Q .normal K1 (S y) N) (hx:∀y e,invx y e→Q e K1 (S y) N):zwR P B ps (.fn (.func f) caps) a b Q K H nx :=
 zvm 0 [] (fun _ H'=>H'=[]) hgood hcaps (hit.mono fun s H' nx' h=>⟨h,AH.upto_zero H'⟩) hlen K1 S N inv invx a0 ⟨Wr _,.nil 0,fun s H' h=>by subst h;exact .nil 0,fun _=>.zero _,fun _=>AV.from0 _⟩ hok h0 he hround
  (fun y s H' h1 h2 h3=>by subst h3;exact hdone y s h1 h2) (fun y e H' h1 h2=>by subst h2;exact hx y e h1)
theorem fn_x {f:FuncId} {q:Nat→List Nat} {ac:ACode} {rs:List ARet} {nt:Nat} (hc:zO P f q=some (ac.strip,rs,nt)) {args:List AV} {Post:AV→AH→Nat→Prop} (hn:Nat.ble args.length nt=true)
  (h:wpX P nx ac (retK rs Post) (zlx 0 args) H nx):zU P f args H nx Post:=fn_of hc (Ws hn) h
theorem zg5(a b:Nat):Wa a b=(a == b):=by
 cases h:Wa a b with
 | true=>rw[zF h];simp
 |
  false =>
  have:a≠b:=fun e=>by rw[e,zep] at h;cases h
  simp[this]
end
def subK:Kn→Kn→Prop
 | [],_=>True
 | (j,v)::t,K=>K.get j=v∧subK t K
theorem zw8{K:Kn}:∀{K2:Kn},subK K2 K→∀i,K2.get i=.undef∨K2.get i=K.get i
 | [],_,i=>.inl rfl
 |
  (j,v)::t,h,i=>by
  simp only[Kn.get]
  cases hb:Wa j i with
  | true=>rw[←zF hb];exact .inr h.1.symm
  | false=>exact zw8 h.2 i
theorem Ent.keep{B:Nat}{K K2:Kn}{H:AH}{nx:Nat}(hB:Nat.ble B nx=true)(h:subK K2 K):Ent B K H nx K2 H nx:=by
 refine⟨Ws hB,fun w L ι tmps rel hk=>⟨ι,rel,fun i=>?_,fun b hb=>hb,fun r q g l _ hl=>hl⟩⟩
 rcases zw8 h i with e|e
 · rw[e];exact .undef _ _
 · rw[e];exact hk i
abbrev Tab:=List (Nat × Nat × Nat)
def Tab.at:Tab→Nat→Option (Nat × Nat)
 | [],_=>none
 | (r',r,d)::t,x=>bif Wa r' x then some (r,d) else Tab.at t x
def Tab.sig(t:Tab):Nat→Nat→Option (Nat × Nat × Nat):=fun r' q'=>match t.at r' with
 | some (r,d)=>some (r,q',d)
 | none=>none
def inD(ds:List Nat):Nat→Nat→Prop:=fun r _=>memN ds r=true
def Tab.ok(n:Nat)(ds:List Nat):Tab→Bool
 | []=>true
 | (r',r,_)::t=>Wk r' n && !(memN ds r) && !(memN (t.map (·.2.1)) r)&&Tab.ok n ds t
def zly(H HH:AH)(t:Tab)(ds:List Nat)(n:Nat):AH→Prop
 | []=>True
 | (r',.row sz els2 g2)::u=>Wk r' n=true∧(match t.at r' with
   | some (r,d)=>∃els,H.get r 0=some (.row sz els (g2+d))∧RowV H HH t.sig (inD ds) els els2
   | none=>els2=[]∧g2=0)∧zly H HH t ds n u
 | (r',.fam sz ins)::u=>Wk r' n=true∧(match t.at r' with
   | some (r,d)=>∀(i:Nat) (p:List (List AV) × Nat),ins[i]? = some p→∃els,H.get r (i+1)=some (.row sz els (p.2+d))∧RowV H HH t.sig (inD ds) els p.1
   | none=>∀(i:Nat) (p:List (List AV) × Nat),ins[i]? = some p→p=([],0))∧zly H HH t ds n u
def zpd(H HH:AH)(t:Tab)(ds:List Nat):Kn→Kn→Prop
 | [],_=>True
 | (j,v)::u,K=>Vw H HH t.sig (inD ds) true (K.get j) v∧zpd H HH t ds u K
theorem zo2{H HH:AH}{t:Tab}{ds:List Nat}{K:Kn}:∀{K2:Kn},zpd H HH t ds K2 K→∀i,Vw H HH t.sig (inD ds) true (K.get i) (K2.get i)
 | [],_,i=>.undef _ _
 |
  (j,v)::u,h,i=>by
  simp only[Kn.get]
  cases hb:Wa j i with
  | true=>rw[←zF hb];exact h.1
  | false=>exact zo2 h.2 i
theorem Tab.ok_at{n:Nat}{ds:List Nat}:∀{t:Tab},t.ok n ds=true→∀{x r d},t.at x=some (r,d)→x < n∧memN ds r=false∧r∈t.map (·.2.1)
 | [],_,x,r,d,h=>by cases h
 |
  (r',r0,d0)::t,h,x,r,d,hx=>by
  simp only[Tab.ok,Wf,Wt] at h;obtain⟨⟨⟨h1,h2⟩,h3⟩,h4⟩:=h;simp only[Tab.at] at hx
  cases hb:Wa r' x with
  |
   true =>
   rw[hb] at hx;cases hx;have:=zF hb;subst this;exact⟨by simpa [Wl] using h1,h2,by simp⟩
  |
   false =>
   rw[hb] at hx;obtain⟨a1,a2,a3⟩:=Tab.ok_at h4 hx;exact⟨a1,a2,by simp only[Wm,Wo];exact .inr a3⟩
theorem Tab.ok_inj{n:Nat}{ds:List Nat}:∀{t:Tab},t.ok n ds=true→∀{x y r d e},t.at x=some (r,d)→t.at y=some (r,e)→x=y
 | [],_,x,y,r,d,e,h,_=>by cases h
 |
  (r',r0,d0)::t,h,x,y,r,d,e,hx,hy=>by
  have h':=h;simp only[Tab.ok,Wf,Wt] at h';obtain⟨⟨⟨h1,h2⟩,h3⟩,h4⟩:=h';simp only[Tab.at] at hx hy
  cases hb:Wa r' x with
  |
   true =>
   cases hc:Wa r' y with
   | true=>exact(zF hb).symm.trans (zF hc)
   |
    false =>
    rw[hb] at hx;rw[hc] at hy;cases hx;have:=(Tab.ok_at h4 hy).2.2;exact absurd ((za1 _ _).2 this) (by rw[h3];exact Wp)
  |
   false =>
   cases hc:Wa r' y with
   |
    true =>
    rw[hb] at hx;rw[hc] at hy;cases hy;have:=(Tab.ok_at h4 hx).2.2;exact absurd ((za1 _ _).2 this) (by rw[h3];exact Wp)
   |
    false =>
    rw[hb] at hx;rw[hc] at hy;exact Tab.ok_inj h4 hx hy
theorem zoo{H HH:AH}{t:Tab}{ds:List Nat}{n:Nat}:∀{H2:AH},zly H HH t ds n H2→∀r o,H2.look r=some o→r < n
 | [],_,r,o,h=>by cases h
 |
  (r',ob)::u,h,r,o,hl=>by
  have hh:Wk r' n=true∧zly H HH t ds n u:=by cases ob<;>exact⟨h.1,h.2.2⟩
  simp only[AH.look] at hl
  cases hb:Wa r' r with
  | true=>rw[←zF hb];simpa [Wl] using hh.1
  | false=>rw[hb] at hl;exact zoo hh.2 r o hl
theorem zob{H HH:AH}{t:Tab}{ds:List Nat}{n:Nat}:∀{H2:AH},zly H HH t ds n H2→∀r' q' sz els2 g2,H2.get r' q'=some (.row sz els2 g2) →
  (∃r q d els,t.sig r' q'=some (r,q,d)∧H.get r q=some (.row sz els (g2+d))∧RowV H HH t.sig (inD ds) els els2)∨(t.sig r' q'=none∧els2=[]∧g2=0)
 | [],_,r',q',sz,els2,g2,h=>by cases h
 |
  (r0,ob)::u,h,r',q',sz,els2,g2,hg=>by
  have hh:zly H HH t ds n u:=by cases ob<;>exact h.2.2
  unfold AH.get at hg;simp only[AH.look] at hg
  cases hb:Wa r0 r' with
  | false=>rw[hb] at hg;exact zob hh r' q' sz els2 g2 hg
  |
   true =>
   rw[hb] at hg;have:=zF hb;subst this;simp only[cond_true,Wx] at hg
   cases ob with
   |
    row sz0 els0 g0 =>
    cases q' with
    | succ q=>cases hg
    |
     zero =>
     simp only[AObj.part,Wg,AObj.row.injEq] at hg;obtain⟨rfl,rfl,rfl⟩:=hg;have h2:=h.2.1;unfold Tab.sig
     cases ht:t.at r0 with
     | none=>rw[ht] at h2;exact .inr ⟨rfl,h2⟩
     |
      some p =>
      obtain⟨r,d⟩:=p;rw[ht] at h2;obtain⟨els,h3,h4⟩:=h2;exact .inl ⟨r,0,d,els,rfl,h3,h4⟩
   |
    fam sz0 ins =>
    cases q' with
    | zero=>cases hg
    |
     succ i =>
     simp only[AObj.part] at hg;obtain⟨p,hp,he⟩:=We.1 hg;cases he;have h2:=h.2.1;unfold Tab.sig
     cases ht:t.at r0 with
     |
      none =>
      rw[ht] at h2;have:=h2 i p hp;rw[this];exact .inr ⟨rfl,rfl,rfl⟩
     |
      some p' =>
      obtain⟨r,d⟩:=p';rw[ht] at h2;obtain⟨els,h3,h4⟩:=h2 i p hp;exact .inl ⟨r,i+1,d,els,rfl,h3,h4⟩
theorem Ent.tab{K K2:Kn}{H H2:AH}{nx nx2:Nat}(t:Tab)(ds:List Nat)(hok:t.ok nx2 ds=true)(hr:zly H H2 t ds nx2 H2)(hK:zpd H H2 t ds K2 K):Ent 0 K H nx K2 H2 nx2:=by
 refine Ent.view t.sig (inD ds) ⟨Wr _,fun r q h=>absurd h (Wu _),?_,?_,?_,zoo hr,zob hr⟩ (zo2 hK)
 ·
  intro r1 q1 r2 q2 r q d1 d2 h1 h2;unfold Tab.sig at h1 h2
  cases e1:t.at r1 with
  | none=>rw[e1] at h1;cases h1
  |
   some p1 =>
   cases e2:t.at r2 with
   | none=>rw[e2] at h2;cases h2
   |
    some p2 =>
    rw[e1] at h1;rw[e2] at h2;simp only[Wg,Wn] at h1 h2;obtain⟨rfl,rfl,rfl⟩:=h1;obtain⟨h3,rfl,rfl⟩:=h2;refine⟨Tab.ok_inj hok (d:=p1.2) (e:=p2.2) e1 ?_,rfl⟩;rw[e2,←h3]
 ·
  intro r' q' r q d h;unfold Tab.sig at h
  cases e1:t.at r' with
  | none=>rw[e1] at h;cases h
  |
   some p1 =>
   rw[e1] at h;simp only[Wg,Wn] at h;obtain⟨rfl,_,rfl⟩:=h;have:=(Tab.ok_at hok (d:=p1.2) e1).2.1;unfold inD;rw[this];exact Wp
 ·
  intro r' q' x h;unfold Tab.sig at h
  cases e1:t.at r' with
  | none=>rw[e1] at h;cases h
  | some p1=>exact(Tab.ok_at hok (d:=p1.2) e1).1
def zqK(u:Option AObj)(H:AH)(r q:Nat)(o:AObj):AH:=match u with
 | some u=>H.put r (u.upd q o)
 | none=>H.put r o
theorem ev_t{ρ:Nat→AV}{n:Nat}:ev ρ (.t n)=ρ n:=rfl
theorem ev_c{ρ:Nat→AV}{v:AV}:ev ρ (.c v)=v:=rfl
theorem zEe{ρ:Nat→AV}:evs ρ []=[]:=rfl
theorem zDn{ρ:Nat→AV}{x:AOpd}{l:List AOpd}:evs ρ (x::l)=ev ρ x::evs ρ l:=rfl
theorem zvf{ρ:Nat→AV}:ze7 ρ []=[]:=rfl
theorem zu1{ρ:Nat→AV}{a b:Nat}{x:AOpd}{l:List (Nat × Nat × AOpd)}:ze7 ρ ((a,b,x)::l)=(a,b,ev ρ x)::ze7 ρ l:=rfl
theorem zBb{ρ:Nat→AV}:zkh ρ []=[]:=rfl
theorem zyY{ρ:Nat→AV}{a:Nat}{x:AOpd}{l:List (Nat × AOpd)}:zkh ρ ((a,x)::l)=(a,ev ρ x)::zkh ρ l:=rfl
theorem zCG{ρ:Nat→AV}:evO ρ none=none:=rfl
theorem zCw{ρ:Nat→AV}{x:AOpd}:evO ρ (some x)=some (ev ρ x):=rfl
theorem zzQ{K:Kn}{v:AV}:setO K none v=K:=rfl
theorem zBc{K:Kn}{d:Nat}{v:AV}:setO K (some d) v=K.set d v:=rfl
theorem zB9{i:Nat}:Kn.get [] i=.undef:=rfl
theorem zzv{j:Nat}{v:AV}{t:Kn}{i:Nat}:Kn.get ((j,v)::t) i=bif (j == i) then v else Kn.get t i:=by rw[←zg5];rfl
theorem zCs{i:Nat}{v:AV}:Kn.set [] i v=[(i,v)]:=rfl
theorem zAr{j:Nat}{u v:AV}{t:Kn}{i:Nat}:Kn.set ((j,u)::t) i v=bif (j == i) then (i,v)::t else (j,u)::Kn.set t i v:=by rw[←zg5];rfl
theorem zA8{l:List Nat}:Kn.drop [] l=[]:=rfl
theorem zyw{j:Nat}{v:AV}{t:Kn}{l:List Nat}:Kn.drop ((j,v)::t) l=bif memN l j then Kn.drop t l else (j,v)::Kn.drop t l:=rfl
theorem zC5{i:Nat}:memN [] i=false:=rfl
theorem zAH{j:Nat}{t:List Nat}{i:Nat}:memN (j::t) i=bif (j == i) then true else memN t i:=by rw[←zg5];rfl
theorem zz3{i:Nat}:zlx i []=[]:=rfl
theorem zxW{i:Nat}{a:AV}{r:List AV}:zlx i (a::r)=(i,a)::zlx (i+1) r:=rfl
theorem zwe{K:Kn}{H:AH}{nx:Nat}:zcK K H nx []=True:=rfl
theorem zvt{K:Kn}{H:AH}{nx t:Nat}{r:List ARet}:zcK K H nx (.tmp t::r)=zcK K H nx r:=rfl
theorem zt6{K:Kn}{H:AH}{nx t n:Nat}{g:Bool}{r:List ARet}:zcK K H nx (.cell t g n::r)=((zfo g n (K.get t) H nx).side∧zcK K H nx r):=rfl
theorem zww{K:Kn}{H:AH}{nx:Nat}:zb2 K H nx []=[]:=rfl
theorem zvG{K:Kn}{H:AH}{nx t:Nat}{r:List ARet}:zb2 K H nx (.tmp t::r)=K.get t::zb2 K H nx r:=rfl
theorem zuG{K:Kn}{H:AH}{nx t n:Nat}{g:Bool}{r:List ARet}:zb2 K H nx (.cell t g n::r)=(zfo g n (K.get t) H nx).v::zb2 K H nx r:=rfl
theorem zy4{v:AV}:zow [v]=v:=rfl
theorem zx6:zow []=.tup []:=rfl
theorem zBf{u v:AV}{l:List AV}:zow (u::v::l)=.tup (u::v::l):=rfl
theorem zB5{r:Nat}:AH.look [] r=none:=rfl
theorem zAZ{j:Nat}{o:AObj}{t:AH}{r:Nat}:AH.look ((j,o)::t) r=bif (j == r) then some o else AH.look t r:=by rw[←zg5];rfl
theorem zEo{r:Nat}{o:AObj}:AH.put [] r o=[(r,o)]:=rfl
theorem zCS{j:Nat}{u o:AObj}{t:AH}{r:Nat}:AH.put ((j,u)::t) r o=bif (j == r) then (r,o)::t else (j,u)::AH.put t r o:=by rw[←zg5];rfl
theorem zCN{H:AH}{r q:Nat}:AH.get H r q=(AH.look H r).bind (·.part q):=rfl
theorem zCp{H:AH}{r q:Nat}{o:AObj}:AH.set H r q o=zqK (AH.look H r) H r q o:=by unfold AH.set zqK;split<;>simp_all
theorem zwp{u:AObj}{H:AH}{r q:Nat}{o:AObj}:zqK (some u) H r q o=H.put r (u.upd q o):=rfl
theorem zv9{H:AH}{r q:Nat}{o:AObj}:zqK none H r q o=H.put r o:=rfl
theorem zCo{sz g:Nat}{els:List (List AV)}:AObj.part (.row sz els g) 0=some (.row sz els g):=rfl
theorem zCV{sz i:Nat}{ins:List (List (List AV) × Nat)}:AObj.part (.fam sz ins) (i+1)=(ins[i]?).map fun p=>.row sz p.1 p.2:=rfl
theorem zEG{sz g:Nat}{els:List (List AV)}{o:AObj}{q:Nat}:AObj.upd (.row sz els g) q o=o:=by cases o<;>rfl
theorem zE7{sz sz' i g:Nat}{ins:List (List (List AV) × Nat)}{els:List (List AV)}:AObj.upd (.fam sz ins) (i+1) (.row sz' els g)=.fam sz (ins.set i (els,g)):=rfl
theorem zx9{o:AObj}{f:AObj→Option AObj}:(some o).bind f=f o:=rfl
theorem evS :
 (∀{P:Program}{B:Nat}{Q:QT}{K:Kn}{H:AH}{nx:Nat},wpX P B .skip Q K H nx=Q .normal K H nx) ∧
 (∀{P:Program}{B:Nat}{Q:QT}{K:Kn}{H:AH}{nx:Nat}{drop:List Nat}{os:List AOper},wpX P B (.region os drop) Q K H nx=za0 P (.ops os) drop Q K H nx) ∧
 (∀{P:Program}{B:Nat}{Q:QT}{K:Kn}{H:AH}{nx:Nat}{drop:List Nat}{t:DTree},wpX P B (.draw t drop) Q K H nx=za0 P (.tree t) drop Q K H nx) ∧
 (∀{P:Program}{B:Nat}{Q:QT}{K:Kn}{H:AH}{nx:Nat}{a b:ACode},wpX P B (.seq a b) Q K H nx=wpX P B a (seqQ P B b Q) K H nx) ∧
 (∀{P:Program}{B:Nat}{Q:QT}{K:Kn}{H:AH}{nx:Nat}{c:AOpd}{a b:ACode},wpX P B (.cond c a b) Q K H nx=zBP P B (ev K.get c) a b Q K H nx) ∧
 (∀{P:Program}{B:Nat}{Q:QT}{K:Kn}{H:AH}{nx:Nat}{id:Nat}{c:ACode},wpX P B (.block id c) Q K H nx=wpX P B c (zd4 id Q) K H nx) ∧
 (∀{P:Program}{B:Nat}{Q:QT}{K:Kn}{H:AH}{nx:Nat}{c:ACode},wpX P B (.loop c) Q K H nx=zno P B c Q K H nx) ∧
 (∀{P:Program}{B:Nat}{Q:QT}{K:Kn}{H:AH}{nx:Nat}{id:Nat},wpX P B (.exit id) Q K H nx=Q (.exit id) K H nx) ∧
 (∀{P:Program}{B:Nat}{Q:QT}{K:Kn}{H:AH}{nx:Nat},wpX P B .ret Q K H nx=Q .ret K H nx) ∧
 (∀{P:Program}{B:Nat}{Q:QT}{K:Kn}{H:AH}{nx:Nat}{n:Nat}{c:ACode},wpX P B (.mark n c) Q K H nx=markX P B c Q K H nx) ∧
 (∀{P:Program}{B:Nat}{Q:QT}{K:Kn}{H:AH}{nx:Nat}{c:ACode},wpX P B (.scope c) Q K H nx=wpX P B c (noGQ Q) K H nx) ∧
 (∀{P:Program}{B:Nat}{Q:QT}{K:Kn}{H:AH}{nx:Nat}{l:Nat},wpX P B (.label l) Q K H nx=Q .normal K H nx) ∧
 (∀{P:Program}{B:Nat}{Q:QT}{K:Kn}{H:AH}{nx:Nat}{l:Nat},wpX P B (.goto l) Q K H nx=Q (.goto l) K H nx) ∧
 (∀{P:Program}{B:Nat}{Q:QT}{K:Kn}{H:AH}{nx:Nat}{l:Nat}{a b:ACode},wpX P B (.jump l a b) Q K H nx=jumpX P B l a b Q K H nx) ∧
 (∀{P:Program}{B:Nat}{Q:QT}{K:Kn}{H:AH}{nx:Nat}{g:AOpd}{ps:List Nat}{a b:ACode},wpX P B (.range g ps a b) Q K H nx=zwR P B ps (ev K.get g) a b Q K H nx) ∧
 (∀{P:Program}{N:Nat}{K:Kn}{H:AH}{nx:Nat}{b:ACode}{R:QT},asgQ P N b R .normal K H nx=wpX P N b R K H nx) ∧
 (∀{P:Program}{B:Nat}{Q:QT}{K:Kn}{H:AH}{nx:Nat}{a b:ACode},wpX P B (.join a b) Q K H nx=zFj P B a b Q K H nx) ∧
 (∀{P:Program}{B:Nat}{Q:QT}{K:Kn}{H:AH}{nx:Nat}{b:ACode},seqQ P B b Q .normal K H nx=wpX P B b Q K H nx) ∧
 (∀{P:Program}{B:Nat}{Q:QT}{K:Kn}{H:AH}{nx:Nat}{b:ACode},seqQ P B b Q .ret K H nx=Q .ret K H nx) ∧
 (∀{P:Program}{B:Nat}{Q:QT}{K:Kn}{H:AH}{nx:Nat}{b:ACode}{l:Nat},seqQ P B b Q (.goto l) K H nx=Q (.goto l) K H nx) ∧
 (∀{P:Program}{B:Nat}{Q:QT}{K:Kn}{H:AH}{nx:Nat}{b:ACode}{id:Nat},seqQ P B b Q (.exit id) K H nx=Q (.exit id) K H nx) ∧
 (∀{Q:QT}{K:Kn}{H:AH}{nx:Nat}{id:Nat},zd4 id Q .normal K H nx=Q .normal K H nx) ∧
 (∀{Q:QT}{K:Kn}{H:AH}{nx:Nat}{id l:Nat},zd4 id Q (.goto l) K H nx=Q (.goto l) K H nx) ∧
 (∀{Q:QT}{K:Kn}{H:AH}{nx:Nat},noGQ Q .normal K H nx=Q .normal K H nx) ∧
 (∀{Q:QT}{K:Kn}{H:AH}{nx:Nat},noGQ Q .ret K H nx=Q .ret K H nx) ∧
 (∀{Q:QT}{K:Kn}{H:AH}{nx:Nat}{id:Nat},noGQ Q (.exit id) K H nx=Q (.exit id) K H nx) ∧
 (∀{Q:QT}{K:Kn}{H:AH}{nx:Nat}{id:Nat},zd4 id Q .ret K H nx=Q .ret K H nx) ∧
 (∀{Q:QT}{K:Kn}{H:AH}{nx:Nat}{id id':Nat},zd4 id Q (.exit id') K H nx=bif Wa id' id then Q .normal K H nx else Q (.exit id') K H nx) ∧
 (∀{P:Program}{B:Nat}{Q:QT}{K:Kn}{H:AH}{nx:Nat}{t:Bool}{a b:ACode},zBP P B (.bool t) a b Q K H nx=zs7 P B t a b Q K H nx) ∧
 (∀{P:Program}{B:Nat}{Q:QT}{K:Kn}{H:AH}{nx:Nat}{a b:ACode},zs7 P B true a b Q K H nx=wpX P B a Q K H nx) ∧
 (∀{P:Program}{B:Nat}{Q:QT}{K:Kn}{H:AH}{nx:Nat}{a b:ACode},zs7 P B false a b Q K H nx=wpX P B b Q K H nx) ∧
 (∀{K:Kn}{H:AH}{nx:Nat}{rs:List ARet}{Post:AV→AH→Nat→Prop},retK rs Post .ret K H nx=(zcK K H nx rs∧Post (zow (zb2 K H nx rs)) H nx)) ∧
 (∀{K:Kn}{H:AH}{nx:Nat}{rs:List ARet}{Post:AV→AH→Nat→Prop},retK rs Post .normal K H nx=(zcK K H nx rs∧Post (zow (zb2 K H nx rs)) H nx)) ∧
 (∀{P:Program}{Q:QT}{K:Kn}{H:AH}{nx:Nat}{drop:List Nat},za0 P (.ops []) drop Q K H nx=Q .normal (K.drop drop) H nx) ∧
 (∀{P:Program}{Q:QT}{K:Kn}{H:AH}{nx:Nat}{drop:List Nat}{os:List AOper}{d:Option Nat}{op:AOp},za0 P (.ops (⟨d,op,none⟩::os)) drop Q K H nx=opX P op d (.ops os) drop Q K H nx) ∧
 (∀{P:Program}{Q:QT}{K:Kn}{H:AH}{nx:Nat}{drop:List Nat}{os:List AOper}{d:Option Nat}{op:AOp}{t:Nat}{want:Bool},za0 P (.ops (⟨d,op,some (t,want)⟩::os)) drop Q K H nx=zi1 P (K.get t) want op d (.ops os) drop Q K H nx) ∧
 (∀{P:Program}{Q:QT}{K:Kn}{H:AH}{nx:Nat}{drop:List Nat},za0 P (.tree .done) drop Q K H nx=Q .normal (K.drop drop) H nx) ∧
 (∀{P:Program}{Q:QT}{K:Kn}{H:AH}{nx:Nat}{drop:List Nat},za0 P (.tree .stop) drop Q K H nx=True) ∧
 (∀{P:Program}{Q:QT}{K:Kn}{H:AH}{nx:Nat}{drop:List Nat}{d:Option Nat}{op:AOp}{t:DTree},za0 P (.tree (.step ⟨d,op,none⟩ t)) drop Q K H nx=opX P op d (.tree t) drop Q K H nx) ∧
 (∀{P:Program}{Q:QT}{K:Kn}{H:AH}{nx:Nat}{drop:List Nat}{d:Option Nat}{op:AOp}{t:DTree}{g:Nat}{want:Bool},za0 P (.tree (.step ⟨d,op,some (g,want)⟩ t)) drop Q K H nx=zi1 P (K.get g) want op d (.tree t) drop Q K H nx) ∧
 (∀{P:Program}{Q:QT}{K:Kn}{H:AH}{nx:Nat}{drop:List Nat}{d:Option Nat}{op:AOp}{t u:DTree},za0 P (.tree (.alt ⟨d,op,none⟩ t u)) drop Q K H nx=(opX P op d (.tree t) drop Q K H nx∧za0 P (.tree u) drop Q K H nx)) ∧
 (∀{P:Program}{Q:QT}{K:Kn}{H:AH}{nx:Nat}{drop:List Nat}{d:Option Nat}{op:AOp}{t u:DTree}{g:Nat}{want:Bool},za0 P (.tree (.alt ⟨d,op,some (g,want)⟩ t u)) drop Q K H nx=(zi1 P (K.get g) want op d (.tree t) drop Q K H nx∧za0 P (.tree u) drop Q K H nx)) ∧
 (∀{P:Program}{Q:QT}{K:Kn}{H:AH}{nx:Nat}{drop:List Nat}{d:Option Nat}{r:Rest}{op:AOp}{b:Bool},zi1 P (.bool b) true op d r drop Q K H nx=zlt P b op d r drop Q K H nx) ∧
 (∀{P:Program}{Q:QT}{K:Kn}{H:AH}{nx:Nat}{drop:List Nat}{d:Option Nat}{r:Rest}{op:AOp}{b:Bool},zi1 P (.bool b) false op d r drop Q K H nx=zlt P (!b) op d r drop Q K H nx) ∧
 (∀{P:Program}{Q:QT}{K:Kn}{H:AH}{nx:Nat}{drop:List Nat}{d:Option Nat}{r:Rest}{op:AOp}{want:Bool},zi1 P (.tup []) want op d r drop Q K H nx=za0 P r drop Q (setO K d (.tup [])) H nx) ∧
 (∀{P:Program}{Q:QT}{K:Kn}{H:AH}{nx:Nat}{drop:List Nat}{d:Option Nat}{r:Rest}{op:AOp},zlt P true op d r drop Q K H nx=opX P op d r drop Q K H nx) ∧
 (∀{P:Program}{Q:QT}{K:Kn}{H:AH}{nx:Nat}{drop:List Nat}{d:Option Nat}{r:Rest}{op:AOp},zlt P false op d r drop Q K H nx=za0 P r drop Q (setO K d (.tup [])) H nx) ∧
 (∀{P:Program}{Q:QT}{K:Kn}{drop:List Nat}{os:List AOper}{d:Option Nat}{s f:Prop}{v:AV}{H':AH}{nx':Nat},resX P ⟨s,f,v,H',nx'⟩ d (.ops os) drop Q K=(s∧(f→za0 P (.ops os) drop Q (setO K d v) H' nx'))) ∧
 (∀{P:Program}{Q:QT}{K:Kn}{drop:List Nat}{d:Option Nat}{s f:Prop}{v:AV}{H':AH}{nx':Nat}{t:DTree},resX P ⟨s,f,v,H',nx'⟩ d (.tree t) drop Q K=(s∧za0 P (.tree t) drop Q (setO K d v) H' nx')) ∧
 (∀{P:Program}{Q:QT}{K:Kn}{H:AH}{nx:Nat}{drop:List Nat}{d:Option Nat}{r:Rest}{x:AOpd},opX P (.mov x) d r drop Q K H nx=za0 P r drop Q (setO K d (ev K.get x)) H nx) ∧
 (∀{P:Program}{Q:QT}{K:Kn}{H:AH}{nx:Nat}{drop:List Nat}{d:Option Nat}{r:Rest}{s:Nat},opX P (.mknil s) d r drop Q K H nx=za0 P r drop Q (setO K d (.own nx 0 0 0 0)) (H.set nx 0 (.row s [] 0)) (nx+1)) ∧
 (∀{P:Program}{Q:QT}{K:Kn}{H:AH}{nx:Nat}{drop:List Nat}{d:Option Nat}{r:Rest}{c x y:AOpd},opX P (.pick c x y) d r drop Q K H nx=resX P (zpR (ev K.get c) (ev K.get x) (ev K.get y) H nx) d r drop Q K) ∧
 (∀{P:Program}{Q:QT}{K:Kn}{H:AH}{nx:Nat}{drop:List Nat}{d:Option Nat}{r:Rest}{g:Bool}{n:Nat}{p:AOpd},opX P (.load g n p) d r drop Q K H nx=resX P (zfo g n (ev K.get p) H nx) d r drop Q K) ∧
 (∀{P:Program}{Q:QT}{K:Kn}{H:AH}{nx:Nat}{drop:List Nat}{d:Option Nat}{r:Rest}{n:Nat}{p v:AOpd},opX P (.store n p v) d r drop Q K H nx=resX P (zhu n (ev K.get p) (ev K.get v) H nx) d r drop Q K) ∧
 (∀{P:Program}{Q:QT}{K:Kn}{H:AH}{nx:Nat}{drop:List Nat}{d:Option Nat}{r:Rest}{s:Nat}{x i:AOpd},opX P (.idx s x i) d r drop Q K H nx=resX P (idxR s (ev K.get x) (ev K.get i) H nx) d r drop Q K) ∧
 (∀{P:Program}{Q:QT}{K:Kn}{H:AH}{nx:Nat}{drop:List Nat}{d:Option Nat}{r:Rest}{o n:Nat}{x:AOpd},opX P (.fldaddr o n x) d r drop Q K H nx=resX P (zeg o n (ev K.get x) H nx) d r drop Q K) ∧
 (∀{P:Program}{Q:QT}{K:Kn}{H:AH}{nx:Nat}{drop:List Nat}{d:Option Nat}{r:Rest}{o n:Nat}{g:Bool}{x:AOpd},opX P (.fld o n g x) d r drop Q K H nx=resX P (fldR o n g (ev K.get x) H nx) d r drop Q K) ∧
 (∀{P:Program}{Q:QT}{K:Kn}{H:AH}{nx:Nat}{drop:List Nat}{d:Option Nat}{r:Rest}{x:AOpd},opX P (.len x) d r drop Q K H nx=resX P (lenR (ev K.get x) H nx) d r drop Q K) ∧
 (∀{P:Program}{Q:QT}{K:Kn}{H:AH}{nx:Nat}{drop:List Nat}{d:Option Nat}{r:Rest}{x:AOpd},opX P (.slen x) d r drop Q K H nx=resX P (zrD (ev K.get x) H nx) d r drop Q K) ∧
 (∀{P:Program}{Q:QT}{K:Kn}{H:AH}{nx:Nat}{drop:List Nat}{d:Option Nat}{r:Rest}{o:BinOp}{x y:AOpd},opX P (.bin o x y) d r drop Q K H nx=resX P (binI o (ev K.get x) (ev K.get y) H nx) d r drop Q K) ∧
 (∀{P:Program}{Q:QT}{K:Kn}{H:AH}{nx:Nat}{drop:List Nat}{d:Option Nat}{r:Rest}{n:Bool}{x y:AOpd},opX P (.eqb n x y) d r drop Q K H nx=resX P (eqB n (ev K.get x) (ev K.get y) H nx) d r drop Q K) ∧
 (∀{P:Program}{Q:QT}{K:Kn}{H:AH}{nx:Nat}{drop:List Nat}{d:Option Nat}{r:Rest}{o:UnOp}{x:AOpd},opX P (.un o x) d r drop Q K H nx=resX P (unR o (ev K.get x) H nx) d r drop Q K) ∧
 (∀{P:Program}{Q:QT}{K:Kn}{H:AH}{nx:Nat}{drop:List Nat}{d:Option Nat}{r:Rest}{k:IntKind}{x:AOpd},opX P (.conv k x) d r drop Q K H nx=resX P (zqa k (ev K.get x) H nx) d r drop Q K) ∧
 (∀ {P:Program} {Q:QT} {K:Kn} {H:AH} {nx:Nat} {drop:List Nat} {d:Option Nat} {r:Rest} {z:List AV} {ps:List (Nat × Nat × AOpd)},opX P (.build z ps) d r drop Q K H nx=resX P (zli z (ze7 K.get ps) H nx) d r drop Q K) ∧
 (∀ {P:Program} {Q:QT} {K:Kn} {H:AH} {nx:Nat} {drop:List Nat} {d:Option Nat} {r:Rest} {s l:Nat} {z:List AV} {ps:List (Nat × AOpd)},opX P (.buildSl s l z ps) d r drop Q K H nx=resX P (zgf s l z (zkh K.get ps) H nx) d r drop Q K) ∧
 (∀{P:Program}{Q:QT}{K:Kn}{H:AH}{nx:Nat}{drop:List Nat}{d:Option Nat}{r:Rest}{x:AOpd},opX P (.box x) d r drop Q K H nx=resX P (boxR (ev K.get x) H nx) d r drop Q K) ∧
 (∀{P:Program}{Q:QT}{K:Kn}{H:AH}{nx:Nat}{drop:List Nat}{d:Option Nat}{r:Rest}{x:AOpd},opX P (.rbox x) d r drop Q K H nx=resX P (zrt (ev K.get x) H nx) d r drop Q K) ∧
 (∀ {P:Program} {Q:QT} {K:Kn} {H:AH} {nx:Nat} {drop:List Nat} {d:Option Nat} {r:Rest} {s l:Nat} {z:List AV} {ps:List (Nat × AOpd)},opX P (.rbuildSl s l z ps) d r drop Q K H nx=resX P (zel s l z (zkh K.get ps) H nx) d r drop Q K) ∧
 (∀{P:Program}{Q:QT}{K:Kn}{H:AH}{nx:Nat}{drop:List Nat}{d:Option Nat}{r:Rest}{x:AOpd},opX P (.mnext x) d r drop Q K H nx=zCi P (ev K.get x) d r drop Q K H nx) ∧
 (∀{P:Program}{Q:QT}{K:Kn}{H:AH}{nx:Nat}{drop:List Nat}{d:Option Nat}{r:Rest}{s b:Nat}{x y:AOpd},opX P (.append2 s b x y) d r drop Q K H nx=app2X P s b (ev K.get x) (ev K.get y) d r drop Q K H nx) ∧
 (∀{P:Program}{Q:QT}{K:Kn}{H:AH}{nx:Nat}{drop:List Nat}{d:Option Nat}{r:Rest}{z:List AV},opX P (.alloc z) d r drop Q K H nx=resX P (zn5 z H nx) d r drop Q K) ∧
 (∀{P:Program}{Q:QT}{K:Kn}{H:AH}{nx:Nat}{drop:List Nat}{d:Option Nat}{r:Rest}{s b:Nat}{z:List AV}{l c:AOpd},opX P (.mksl s b z l c) d r drop Q K H nx=resX P (zo4 s b z (ev K.get l) (ev K.get c) H nx) d r drop Q K) ∧
 (∀{P:Program}{Q:QT}{K:Kn}{H:AH}{nx:Nat}{drop:List Nat}{d:Option Nat}{r:Rest}{s:Nat}{x:AOpd}{l h:Option AOpd},opX P (.slice s x l h) d r drop Q K H nx=resX P (zhR s (ev K.get x) (evO K.get l) (evO K.get h) H nx) d r drop Q K) ∧
 (∀{P:Program}{Q:QT}{K:Kn}{H:AH}{nx:Nat}{drop:List Nat}{d:Option Nat}{r:Rest}{x:AOpd},opX P (.cut x) d r drop Q K H nx=resX P (cutR (ev K.get x) H nx) d r drop Q K) ∧
 (∀{P:Program}{Q:QT}{K:Kn}{H:AH}{nx:Nat}{drop:List Nat}{d:Option Nat}{r:Rest}{f:Fn}{cs:List AOpd},opX P (.mkfn f cs) d r drop Q K H nx=za0 P r drop Q (setO K d (.fn f (evs K.get cs))) H nx) ∧
 (∀{P:Program}{Q:QT}{K:Kn}{H:AH}{nx:Nat}{drop:List Nat}{d:Option Nat}{r:Rest}{s b:Nat}{x y:AOpd},opX P (.append s b x y) d r drop Q K H nx=resX P (zhn s b (ev K.get x) (ev K.get y) H nx) d r drop Q K) ∧
 (∀{P:Program}{Q:QT}{K:Kn}{H:AH}{nx:Nat}{drop:List Nat}{d:Option Nat}{r:Rest}{s:Nat}{z:List AV}{x:AOpd},opX P (.clear s z x) d r drop Q K H nx=resX P (zj0 s z (ev K.get x) H nx) d r drop Q K) ∧
 (∀{P:Program}{Q:QT}{K:Kn}{H:AH}{nx:Nat}{drop:List Nat}{d:Option Nat}{r:Rest}{i:Nat}{x:AOpd},opX P (.ext i x) d r drop Q K H nx=resX P (extR i (ev K.get x) H nx) d r drop Q K) ∧
 (∀{P:Program}{Q:QT}{K:Kn}{H:AH}{nx:Nat}{drop:List Nat}{d:Option Nat}{r:Rest}{n p:Bool}{x:AOpd},opX P (.isnil n p x) d r drop Q K H nx=nilX P (nilB p (ev K.get x)) n d r drop Q K H nx) ∧
 (∀{P:Program}{Q:QT}{K:Kn}{H:AH}{nx:Nat}{drop:List Nat}{d:Option Nat}{r:Rest}{f:FuncId}{xs:List AOpd},opX P (.call f xs) d r drop Q K H nx=zyj P f (evs K.get xs) H nx (zsQ P d r drop Q K)) ∧
 (∀{P:Program}{Q:QT}{K:Kn}{H:AH}{nx:Nat}{drop:List Nat}{d:Option Nat}{r:Rest}{f:FuncId}{xs:List AOpd},opX P (.callq f xs) d r drop Q K H nx=zzh P f (evs K.get xs) d r drop Q K H nx) ∧
 (∀{P:Program}{Q:QT}{K:Kn}{H:AH}{nx:Nat}{drop:List Nat}{d:Option Nat}{r:Rest}{x:XOp}{xs:List AOpd},opX P (.xop x xs) d r drop Q K H nx=resX P (xopR x (evs K.get xs) H nx) d r drop Q K) ∧
 (∀{P:Program}{Q:QT}{K:Kn}{H:AH}{nx:Nat}{drop:List Nat}{d:Option Nat}{r:Rest}{x:AOpd}{xs:List AOpd},opX P (.callv x xs) d r drop Q K H nx=zpt P (ev K.get x) (evs K.get xs) H nx (zsQ P d r drop Q K)) ∧
 (∀{P:Program}{H:AH}{nx:Nat}{f:FuncId}{caps args:List AV}{k:AV→AH→Nat→Prop},zpt P (.fn (.func f) caps) args H nx k=(zf7 P f=true∧zyj P f (args++caps) H nx k)) ∧
 (∀{P:Program}{Q:QT}{K:Kn}{H:AH}{nx:Nat}{drop:List Nat}{d:Option Nat}{r:Rest}{b n:Bool},nilX P (some (some b)) n d r drop Q K H nx=za0 P r drop Q (setO K d (.bool (b != n))) H nx) ∧
 (∀{P:Program}{Q:QT}{K:Kn}{H:AH}{nx:Nat}{drop:List Nat}{d:Option Nat}{r:Rest}{n:Bool},nilX P (some none) n d r drop Q K H nx=∀b,za0 P r drop Q (setO K d (.bool b)) H nx) ∧
 (∀{P:Program}{Q:QT}{K:Kn}{drop:List Nat}{os:List AOper}{d:Option Nat}{v:AV}{H':AH}{nx':Nat},zsQ P d (.ops os) drop Q K v H' nx'=(v.wf→za0 P (.ops os) drop Q (setO K d v) H' nx')) ∧
 (∀{P:Program}{Q:QT}{K:Kn}{drop:List Nat}{d:Option Nat}{v:AV}{H':AH}{nx':Nat}{t:DTree},zsQ P d (.tree t) drop Q K v H' nx'=za0 P (.tree t) drop Q (setO K d v) H' nx') ∧
 (∀{B:Nat}{Q:QT}{K:Kn}{H:AH}{nx:Nat}{α:Type}{S:α→Kn × AH}{N:Nat}{inv:α→Prop}{μ:α→Nat}{a:α},zrv B S N inv μ a Q .normal K H nx=∃a',inv a'∧μ a' < μ a∧Ent B K H nx (S a').1 (S a').2 N) ∧
 (∀{B:Nat}{Q:QT}{K:Kn}{H:AH}{nx:Nat}{α:Type}{S:α→Kn × AH}{N:Nat}{inv:α→Prop}{μ:α→Nat}{a:α}{l:Nat},zrv B S N inv μ a Q (.goto l) K H nx=Q (.goto l) K H nx) ∧
 (∀{B:Nat}{Q:QT}{K:Kn}{H:AH}{nx:Nat}{α:Type}{S:α→Kn × AH}{N:Nat}{inv:α→Prop}{μ:α→Nat}{a:α},zrv B S N inv μ a Q .ret K H nx=Q .ret K H nx) ∧
 (∀{B:Nat}{Q:QT}{K:Kn}{H:AH}{nx:Nat}{α:Type}{S:α→Kn × AH}{N:Nat}{inv:α→Prop}{μ:α→Nat}{a:α}{id:Nat},zrv B S N inv μ a Q (.exit id) K H nx=Q (.exit id) K H nx) ∧
 (∀{B:Nat}{Q:QT}{K:Kn}{H:AH}{nx:Nat}{α:Type}{S:α→Kn × AH}{N:Nat}{inv:α→Prop},zrp B S N inv Q .normal K H nx=∃a',inv a'∧Ent B K H nx (S a').1 (S a').2 N) ∧
 (∀{B:Nat}{Q:QT}{K:Kn}{H:AH}{nx:Nat}{α:Type}{S:α→Kn × AH}{N:Nat}{inv:α→Prop}{l:Nat},zrp B S N inv Q (.goto l) K H nx=Q (.goto l) K H nx) ∧
 (∀{B:Nat}{Q:QT}{K:Kn}{H:AH}{nx:Nat}{α:Type}{S:α→Kn × AH}{N:Nat}{inv:α→Prop},zrp B S N inv Q .ret K H nx=Q .ret K H nx) ∧
 (∀{B:Nat}{Q:QT}{K:Kn}{H:AH}{nx:Nat}{α:Type}{S:α→Kn × AH}{N:Nat}{inv:α→Prop}{id:Nat},zrp B S N inv Q (.exit id) K H nx=Q (.exit id) K H nx) ∧
 (∀{σ α:Type}{B:Nat}{K1:Kn}{S:α→AH}{N:Nat}{inv:α→σ→Prop}{invx:α→AExit→Prop}{s':σ}{K:Kn}{H:AH}{nx:Nat},rngQ B K1 S N inv invx s' .normal K H nx=∃a',inv a' s'∧Ent B K1 H nx K1 (S a') N) ∧
 (∀{σ α:Type}{B:Nat}{K1:Kn}{S:α→AH}{N:Nat}{inv:α→σ→Prop}{invx:α→AExit→Prop}{s':σ}{K:Kn}{H:AH}{nx:Nat},rngQ B K1 S N inv invx s' .ret K H nx=∃a',invx a' .ret∧Ent B K1 H nx K1 (S a') N) ∧
 (∀{σ α:Type}{B:Nat}{K1:Kn}{S:α→AH}{N:Nat}{inv:α→σ→Prop}{invx:α→AExit→Prop}{s':σ}{K:Kn}{H:AH}{nx:Nat}{id:Nat},rngQ B K1 S N inv invx s' (.exit id) K H nx=∃a',invx a' (.exit id)∧Ent B K1 H nx K1 (S a') N) ∧
 (∀{B:Nat}{Q:QT}{K:Kn}{H:AH}{nx:Nat}{l l':Nat}{α:Type}{S:α→Kn × AH}{N:Nat}{inv:α→Prop},zua B l S N inv Q (.goto l') K H nx=(l'=l∧∃a',inv a'∧Ent B K H nx (S a').1 (S a').2 N)) ∧
 (∀{B:Nat}{Q:QT}{K:Kn}{H:AH}{nx:Nat}{l:Nat}{α:Type}{S:α→Kn × AH}{N:Nat}{inv:α→Prop},zua B l S N inv Q .normal K H nx=Q .normal K H nx) ∧
 (∀{B:Nat}{Q:QT}{K:Kn}{H:AH}{nx:Nat}{l:Nat}{α:Type}{S:α→Kn × AH}{N:Nat}{inv:α→Prop},zua B l S N inv Q .ret K H nx=Q .ret K H nx) ∧
 (∀{B:Nat}{Q:QT}{K:Kn}{H:AH}{nx:Nat}{l id:Nat}{α:Type}{S:α→Kn × AH}{N:Nat}{inv:α→Prop},zua B l S N inv Q (.exit id) K H nx=Q (.exit id) K H nx) ∧
 (∀{B:Nat}{Q:QT}{K:Kn}{H:AH}{nx:Nat}{l l':Nat}{α:Type}{S:α→Kn × AH}{N:Nat}{inv:α→Prop}{μ:α→Nat}{a:α},zt9 B l S N inv μ a Q (.goto l') K H nx=(l'=l∧∃a',inv a'∧μ a' < μ a∧Ent B K H nx (S a').1 (S a').2 N)) ∧
 (∀{B:Nat}{Q:QT}{K:Kn}{H:AH}{nx:Nat}{l:Nat}{α:Type}{S:α→Kn × AH}{N:Nat}{inv:α→Prop}{μ:α→Nat}{a:α},zt9 B l S N inv μ a Q .normal K H nx=Q .normal K H nx) ∧
 (∀{B:Nat}{Q:QT}{K:Kn}{H:AH}{nx:Nat}{l:Nat}{α:Type}{S:α→Kn × AH}{N:Nat}{inv:α→Prop}{μ:α→Nat}{a:α},zt9 B l S N inv μ a Q .ret K H nx=Q .ret K H nx) ∧
 (∀{B:Nat}{Q:QT}{K:Kn}{H:AH}{nx:Nat}{l id:Nat}{α:Type}{S:α→Kn × AH}{N:Nat}{inv:α→Prop}{μ:α→Nat}{a:α},zt9 B l S N inv μ a Q (.exit id) K H nx=Q (.exit id) K H nx) :=
 ⟨@zCk,@zyf,@zDg,@zEO,@zDJ,@zzd,@zCm,@zB8,@zEZ,@zDL,@zAd,@zzn,@zDI,@zCT,@zAj,(by intros;rfl),@zCx,@zvI,@zCH,@zAx,@zzM,@ztl,@zwu,@zwA,@zDl,@zAL,@zyR,@zvn,@zyL,@zyv,@zwa,@zDO,@zws,@zzy,@zyb,@zvQ,@zyF,@zyW,@zyZ,@zvL,@zAt,@zyJ,@zye,@zBj,@zvw,@zvS,@zuK,@zCh,@zAR,@zEP,@zz1,@zDd,@zB2,@zAl,@zEV,@zwB,@zFr,@zEs,@zBY,@zE3,@zEc,@opX_un,@zDC,@zAE,@zvU,@zFu,@zCZ,@zt7,@zBJ,@zvd,@zz8,@zDr,@zBM,@zEC,@zB6,@zxV,@zzl,@zEJ,@zy6,@zDN,@zzX,@zET,@zz7,@zlY,@zEi,@zCB,@zzu,@zy2,@zuP,@zyA,@zzZ,@zx4,@zu0,@zyV,@zBy,@zx2,(by intros;rfl),(by intros;rfl),(by intros;rfl),@zxO,@zuc,@zA9,@zxR,@zyo,@zuW,@zBD,@zyU⟩
theorem evK :
 (∀{ρ:Nat→AV}{n:Nat},ev ρ (.t n)=ρ n) ∧
 (∀{ρ:Nat→AV}{v:AV},ev ρ (.c v)=v) ∧
 (∀{ρ:Nat→AV},evs ρ []=[]) ∧
 (∀{ρ:Nat→AV}{x:AOpd}{l:List AOpd},evs ρ (x::l)=ev ρ x::evs ρ l) ∧
 (∀{ρ:Nat→AV},ze7 ρ []=[]) ∧
 (∀ {ρ:Nat→AV} {a b:Nat} {x:AOpd} {l:List (Nat × Nat × AOpd)},ze7 ρ ((a,b,x)::l)=(a,b,ev ρ x)::ze7 ρ l) ∧
 (∀{ρ:Nat→AV},zkh ρ []=[]) ∧
 (∀ {ρ:Nat→AV} {a:Nat} {x:AOpd} {l:List (Nat × AOpd)},zkh ρ ((a,x)::l)=(a,ev ρ x)::zkh ρ l) ∧
 (∀{ρ:Nat→AV},evO ρ none=none) ∧
 (∀{ρ:Nat→AV}{x:AOpd},evO ρ (some x)=some (ev ρ x)) ∧
 (∀{K:Kn}{v:AV},setO K none v=K) ∧
 (∀{K:Kn}{d:Nat}{v:AV},setO K (some d) v=K.set d v) ∧
 (∀{i:Nat},Kn.get [] i=.undef) ∧
 (∀{j:Nat}{v:AV}{t:Kn}{i:Nat},Kn.get ((j,v)::t) i=bif (j == i) then v else Kn.get t i) ∧
 (∀{i:Nat}{v:AV},Kn.set [] i v=[(i,v)]) ∧
 (∀{j:Nat}{u v:AV}{t:Kn}{i:Nat},Kn.set ((j,u)::t) i v=bif (j == i) then (i,v)::t else (j,u)::Kn.set t i v) ∧
 (∀{l:List Nat},Kn.drop [] l=[]) ∧
 (∀{j:Nat}{v:AV}{t:Kn}{l:List Nat},Kn.drop ((j,v)::t) l=bif memN l j then Kn.drop t l else (j,v)::Kn.drop t l) ∧
 (∀{i:Nat},memN [] i=false) ∧
 (∀{j:Nat}{t:List Nat}{i:Nat},memN (j::t) i=bif (j == i) then true else memN t i) ∧
 (∀{i:Nat},zlx i []=[]) ∧
 (∀{i:Nat}{a:AV}{r:List AV},zlx i (a::r)=(i,a)::zlx (i+1) r) ∧
 (∀{K:Kn}{H:AH}{nx:Nat},zcK K H nx []=True) ∧
 (∀{K:Kn}{H:AH}{nx t:Nat}{r:List ARet},zcK K H nx (.tmp t::r)=zcK K H nx r) ∧
 (∀{K:Kn}{H:AH}{nx t n:Nat}{g:Bool}{r:List ARet},zcK K H nx (.cell t g n::r)=((zfo g n (K.get t) H nx).side∧zcK K H nx r)) ∧
 (∀{K:Kn}{H:AH}{nx:Nat},zb2 K H nx []=[]) ∧
 (∀{K:Kn}{H:AH}{nx t:Nat}{r:List ARet},zb2 K H nx (.tmp t::r)=K.get t::zb2 K H nx r) ∧
 (∀{K:Kn}{H:AH}{nx t n:Nat}{g:Bool}{r:List ARet},zb2 K H nx (.cell t g n::r)=(zfo g n (K.get t) H nx).v::zb2 K H nx r) ∧
 (∀{v:AV},zow [v]=v) ∧
 (zow []=.tup []) ∧
 (∀{u v:AV}{l:List AV},zow (u::v::l)=.tup (u::v::l)) ∧
 (∀{r:Nat},AH.look [] r=none) ∧
 (∀{j:Nat}{o:AObj}{t:AH}{r:Nat},AH.look ((j,o)::t) r=bif (j == r) then some o else AH.look t r) ∧
 (∀{r:Nat}{o:AObj},AH.put [] r o=[(r,o)]) ∧
 (∀{j:Nat}{u o:AObj}{t:AH}{r:Nat},AH.put ((j,u)::t) r o=bif (j == r) then (r,o)::t else (j,u)::AH.put t r o) ∧
 (∀{H:AH}{r q:Nat},AH.get H r q=(AH.look H r).bind (·.part q)) ∧
 (∀{H:AH}{r q:Nat}{o:AObj},AH.set H r q o=zqK (AH.look H r) H r q o) ∧
 (∀{u:AObj}{H:AH}{r q:Nat}{o:AObj},zqK (some u) H r q o=H.put r (u.upd q o)) ∧
 (∀{H:AH}{r q:Nat}{o:AObj},zqK none H r q o=H.put r o) ∧
 (∀ {sz g:Nat} {els:List (List AV)},AObj.part (.row sz els g) 0=some (.row sz els g)) ∧
 (∀ {sz i:Nat} {ins:List (List (List AV) × Nat)},AObj.part (.fam sz ins) (i+1)=(ins[i]?).map fun p=>.row sz p.1 p.2) ∧
 (∀ {sz g:Nat} {els:List (List AV)} {o:AObj} {q:Nat},AObj.upd (.row sz els g) q o=o) ∧
 (∀ {sz sz' i g:Nat} {ins:List (List (List AV) × Nat)} {els:List (List AV)},AObj.upd (.fam sz ins) (i+1) (.row sz' els g)=.fam sz (ins.set i (els,g))) ∧
 (∀{o:AObj}{f:AObj→Option AObj},(some o).bind f=f o) :=
 ⟨@ev_t,@ev_c,@zEe,@zDn,@zvf,@zu1,@zBb,@zyY,@zCG,@zCw,@zzQ,@zBc,@zB9,@zzv,@zCs,@zAr,@zA8,@zyw,@zC5,@zAH,@zz3,@zxW,@zwe,@zvt,@zt6,@zww,@zvG,@zuG,@zy4,zx6,@zBf,@zB5,@zAZ,@zEo,@zCS,@zCN,@zCp,@zwp,@zv9,@zCo,@zCV,@zEG,@zE7,@zx9⟩
theorem evB:(∀{α:Type}{a b:α},(bif true then a else b)=a)∧(∀{α:Type}{a b:α},(bif false then a else b)=b)∧(∀{p:Prop},(True∧p)=p)∧(∀{p:Prop},(p∧True)=p)∧(∀{p:Prop},(True→p)=p) :=
 ⟨rfl,rfl,by simp,by simp,by simp⟩
theorem zxn{n:Int}(h1 : -9223372036854775808≤n)(h2:n≤9223372036854775807):IntKind.i64.wrap n=n:=IntWalk.i64_in n ⟨h1,h2⟩
def encL{α:Type}(sz:Nat)(f:α→List AV)(l:List α):AV:=.sl sz l.length (fun i j=>((l.map f).getD i []).getD j .undef)
def encP(sz:Nat)(c:List AV):AV:=.iptr sz (fun j=>c.getD j .undef)
theorem zjr{α β:Type}{f:α→β}{l:List α}{i:Nat}{a:α}{d:β}(h:l[i]? = some a):(l.map f).getD i d=f a:=by simp[Wv,h]
section
variable {α:Type} {sz:Nat} {f:α→List AV} {l:List α} {H:AH} {nx:Nat}
theorem zw2:∀(n k:Nat)(c:List AV),k+n=c.length→tab (fun j=>c.getD j .undef) n k=c.drop k
 | 0,k,c,h=>by simp[tab,List.drop_of_length_le (show c.length≤k by omega)]
 |
  n+1,k,c,h=>by
  simp only[tab];rw[zw2 n (k+1) c (by omega),List.drop_eq_getElem_cons (show k < c.length by omega)];simp[Wv,Wd (show k < c.length by omega)]
theorem zoO(hw:∀a∈l,(f a).length=sz):zgy sz (encL sz f l) H=some (l.map f):=by
 unfold zgy encL;simp only[zep,cond_true]
 congr 1
 apply Wy;intro i
 by_cases hi:i < l.length
 · have hm:l[i]∈l:=Ww hi;simp only[Wh,List.getElem?_range hi,Option.map_some,Wd hi];have e:(List.map f l).getD i []=f l[i]:=zjr (Wd hi);rw[e,zw2 sz 0 (f l[i]) (by rw[hw _ hm];omega)];rfl
 · simp[List.getElem?_eq_none (show l.length≤i by omega),hi]
theorem zuz:nilB false (encL sz f l)=some (bif Wa l.length 0 then none else some false):=rfl
end
def qRo(l:List Nat):Nat→List Nat:=fun id=>bif Wa id 999999 then l else Wi 150
def qGet:List (Nat × List Nat)→Nat→List Nat
 | [],_=>Wi 150
 | (j,l)::t,i=>bif Wa j i then l else qGet t i
def qRoL(l:List Nat)(x:List (Nat × List Nat)):Nat→List Nat:=fun id=>bif Wa id 999999 then l else qGet x id
def za(l:List Int):AV:=encL 1 (fun n=>[.int .i64 n]) l
def zj(l:List Nat):AV:=encL 1 (fun(n:Nat)=>[.int .i64 (n:Int)]) l
def zsR(l:List Bool):AV:=encL 1 (fun b=>[.bool b]) l
theorem ziq {α:Type} {H H2:AH} {σ:Nat→Nat→Option (Nat × Nat × Nat)} {D:Nat→Nat→Prop} {t:Bool} {sz r q g:Nat} {f f':α→List AV} {l:List α} (hD:D r q) (hg:H.get r q=some (.row sz (l.map f) g)) (hb:l.length≤big)
  (h:∀a∈l,∀j,j < sz→Vw H H2 σ D false ((f a).getD j .undef) ((f' a).getD j .undef)):Vw H H2 σ D t (.own r q g 0 l.length) (encL sz f' l):=by
 refine .frz t r q g 0 l.length sz (l.map f) _ hD hg hb (by simp) (fun i j hi hj=>?_);rw[Nat.zero_add,zjr (Wd hi),zjr (Wd hi)];exact h _ (Ww hi) j hj
theorem zen{H H2:AH}{σ:Nat→Nat→Option (Nat × Nat × Nat)}{D:Nat→Nat→Prop}{t:Bool}{r q g:Nat}{l:List Int}(hD:D r q)(hg:H.get r q=some (.row 1 (l.map fun n=>[.int .i64 n]) g))(hb:l.length≤big):
  Vw H H2 σ D t (.own r q g 0 l.length) (za l):=by
 refine ziq hD hg hb (fun a _ j hj=>?_)
 obtain rfl:j=0:=by omega
 exact .int _ _ _
theorem zou{H H2:AH}{σ:Nat→Nat→Option (Nat × Nat × Nat)}{D:Nat→Nat→Prop}{t:Bool}{r q g:Nat}{l:List Nat}(hD:D r q)(hg:H.get r q=some (.row 1 (l.map fun(n:Nat)=>[.int .i64 (n:Int)]) g))(hb:l.length≤big):
  Vw H H2 σ D t (.own r q g 0 l.length) (zj l):=by
 refine ziq hD hg hb (fun a _ j hj=>?_)
 obtain rfl:j=0:=by omega
 exact .int _ _ _
theorem zp1{H H2:AH}{σ:Nat→Nat→Option (Nat × Nat × Nat)}{D:Nat→Nat→Prop}{t:Bool}{r q g:Nat}{l:List Bool}(hD:D r q)(hg:H.get r q=some (.row 1 (l.map fun b=>[.bool b]) g))(hb:l.length≤big):
  Vw H H2 σ D t (.own r q g 0 l.length) (zsR l):=by
 refine ziq hD hg hb (fun a _ j hj=>?_)
 obtain rfl:j=0:=by omega
 exact .bool _ _
theorem zg{α:Type}{H H2:AH}{σ:Nat→Nat→Option (Nat × Nat × Nat)}{D:Nat→Nat→Prop}{t:Bool}{sz:Nat}{f:α→List AV}:Vw H H2 σ D t .nilsl (encL sz f []):=.nil0 _ _ _
theorem evL :
 (∀{c:Nat→AV}{k:Nat},tab c 0 k=[]) ∧
 (∀{c:Nat→AV}{n k:Nat},tab c (n+1) k=c k::tab c n (k+1)) ∧
 (∀{α:Type}{a:α}{l:List α},(a::l).length=l.length+1) ∧
 (∀{α:Type},([]:List α).length=0) ∧
 (∀{α:Type}{a b:α}{l:List α},(a::l).set 0 b=b::l) ∧
 (∀{α:Type}{a b:α}{l:List α}{n:Nat},(a::l).set (n+1) b=a::l.set n b) ∧
 (∀{α:Type}{a d:α}{l:List α},(a::l).getD 0 d=a) ∧
 (∀{α:Type}{a d:α}{l:List α}{n:Nat},(a::l).getD (n+1) d=l.getD n d) ∧
 (∀{cs:List AV},AV.cells (.agg cs)=cs) ∧
 (∀{k:IntKind}{n:Int},AV.cells (.int k n)=[.int k n]) ∧
 (∀{b:Bool},AV.cells (.bool b)=[.bool b]) ∧
 (∀{sz n:Nat}{f:Nat→Nat→AV},AV.cells (.sl sz n f)=[.sl sz n f]) ∧
 (∀{α:Type}{sz:Nat}{f:α→List AV}{l:List α},AV.cells (encL sz f l)=[encL sz f l]) ∧
 (∀{r q g off n:Nat},AV.cells (.own r q g off n)=[.own r q g off n]) ∧
 (∀{r q g i f:Nat},AV.cells (.ptr r q g i f)=[.ptr r q g i f]) ∧
 (∀{f:Fn}{cs:List AV},AV.cells (.fn f cs)=[.fn f cs]) ∧
 (AV.cells .nilsl=[.nilsl])∧(AV.cells .nilfn=[.nilfn])∧(AV.cells .nilp=[.nilp]) ∧
 (∀{s:ByteArray},AV.cells (.str s)=[.str s]) ∧
 (∀{cs:List AV},AV.solid (.agg cs)=true) ∧
 (∀{k:IntKind}{n:Int},AV.solid (.int k n)=true) ∧
 (∀{b:Bool},AV.solid (.bool b)=true) ∧
 (∀{sz n:Nat}{f:Nat→Nat→AV},AV.solid (.sl sz n f)=true) ∧
 (∀{α:Type}{sz:Nat}{f:α→List AV}{l:List α},AV.solid (encL sz f l)=true) ∧
 (∀{r q g off n:Nat},AV.solid (.own r q g off n)=true) ∧
 (∀{r q g i f:Nat},AV.solid (.ptr r q g i f)=true) ∧
 (∀{f:Fn}{cs:List AV},AV.solid (.fn f cs)=true) ∧
 (AV.solid .nilsl=true)∧(AV.solid .nilfn=true)∧(AV.solid .nilp=true) ∧
 (∀{s:ByteArray},AV.solid (.str s)=true) ∧
 (∀{k:IntKind}{n:Int},AV.wf (.int k n)=InR k n) ∧
 (∀{b:Bool},AV.wf (.bool b)=True) ∧
 (∀{cs:List AV},AV.wf (.agg cs)=True) ∧
 (∀{cs:List AV},AV.wf (.tup cs)=True) ∧
 (∀{sz n:Nat}{f:Nat→Nat→AV},AV.wf (.sl sz n f)=(n≤big)) ∧
 (∀{α:Type}{sz:Nat}{f:α→List AV}{l:List α},AV.wf (encL sz f l)=(l.length≤big)) ∧
 (∀{r q g off n:Nat},AV.wf (.own r q g off n)=True) ∧
 (∀{r q g i f:Nat},AV.wf (.ptr r q g i f)=True) ∧
 (∀{n:Nat}{c:Nat→AV},AV.wf (.iptr n c)=True) ∧
 (∀{f:Fn}{cs:List AV},AV.wf (.fn f cs)=True) ∧
 (AV.wf .nilsl=True)∧(AV.wf .nilfn=True)∧(AV.wf .nilp=True)∧(AV.wf .undef=True) ∧
 (∀{s:ByteArray},AV.wf (.str s)=(s.size≤big)) ∧
 (∀{n:Nat},Wa n n=true) ∧
 (∀{a b:Nat},Wa a b=(a == b)) ∧
 (∀{b:Bool},(b&&b)=b)∧(∀{b:Bool},(b&&true)=b)∧(∀{b:Bool},(true&&b)=b)∧(∀{b:Bool},(b&&false)=false)∧(∀{b:Bool},(false&&b)=false) ∧
 (∀{n:Nat},0+n=n) ∧
 (∀{n:Nat},((n:Int).toNat)=n) ∧
 (∀{n:Nat},(0 < n+1)=True) ∧
 (∀{n:Nat},(n≤n)=True) ∧
 (∀{α:Type}{a:α},(a=a)=True) ∧
 (∀{α:Type}{l:List α},[]++l=l)∧(∀{α:Type}{l:List α},l++[]=l)∧(∀{α:Type}{a:α}{l m:List α},(a::l)++m=a::(l++m)) ∧
 (∀{α:Type}{l:List α},l.drop 0=l)∧(∀{α:Type}{a:α}{l:List α}{n:Nat},(a::l).drop (n+1)=l.drop n) ∧
 (∀{α:Type}{l:List α},l.take 0=[])∧(∀{α:Type}{a:α}{l:List α}{n:Nat},(a::l).take (n+1)=a::l.take n) ∧
 (∀{α:Type}{a:α},Wc 0 a=[])∧(∀{α:Type}{a:α}{n:Nat},Wc (n+1) a=a::Wc n a) ∧
 (∀ {els:List (List AV)},zfe els []=els)∧(∀ {els:List (List AV)} {i:Nat} {v:AV} {r:List (Nat × AV)},zfe els ((i,v)::r)=zfe (els.set i v.cells) r) ∧
 (∀{n sz:Nat},ztu n sz []=True)∧(∀ {n sz i:Nat} {v:AV} {r:List (Nat × AV)},ztu n sz ((i,v)::r)=((v.solid=true∧v.cells.length=sz∧i < n)∧ztu n sz r)) ∧
 (∀{cs:List AV},zyH cs []=cs)∧(∀ {cs:List AV} {off size:Nat} {v:AV} {r:List (Nat × Nat × AV)},zyH cs ((off,size,v)::r)=zyH (splice cs off v.cells) r) ∧
 (∀{k:IntKind}{n:Int},AV.flat0 (.int k n)=true)∧(∀{b:Bool},AV.flat0 (.bool b)=true)∧(∀{s:ByteArray},AV.flat0 (.str s)=true)∧(AV.flat0 .undef=true)∧(AV.flat0 .nilsl=true)∧(AV.flat0 .nilp=true)∧(AV.flat0 .nilfn=true)∧(AV.flat0 .cut=true) ∧
 (∀{sz n:Nat}{f:Nat→Nat→AV},AV.flat0 (.sl sz n f)=true)∧(∀{n:Nat}{c:Nat→AV},AV.flat0 (.iptr n c)=true)∧(∀{α:Type}{sz:Nat}{f:α→List AV}{l:List α},AV.flat0 (encL sz f l)=true) ∧
 (zH []=true)∧(∀{v:AV}{r:List AV},zH (v::r)=(v.flat0&&zH r)) ∧
 (∀{n:Nat},zst n []=True)∧(∀ {n off size:Nat} {v:AV} {r:List (Nat × Nat × AV)},zst n ((off,size,v)::r)=((v.solid=true∧v.cells.length=size∧off+size≤n)∧zst n r)):=by
 (repeat' apply And.intro)<;>intros<;>first|rfl|exact Nat.beq_refl _|exact zg5 _ _|simp
def AV.flat:AV→Bool
 | .agg l=>l.all AV.flat0
 | .tup l=>l.all AV.flat0
 | a=>a.flat0
theorem zdD{H H2:AH}{σ:Nat→Nat→Option (Nat × Nat × Nat)}{D:Nat→Nat→Prop}{t:Bool}{a:AV}(h:a.flat0=true):Vw H H2 σ D t a a:=by
 cases a<;>first | (cases h;done)|constructor
theorem zai{H H2:AH}{σ:Nat→Nat→Option (Nat × Nat × Nat)}{D:Nat→Nat→Prop}{t:Bool}{a:AV}(h:a.flat=true):Vw H H2 σ D t a a:=by
 have key:∀(l:List AV),l.all AV.flat0=true→∀(i:Nat)(x y:AV),l[i]? = some x→l[i]? = some y→Vw H H2 σ D t x y:=fun l hl i x y h1 h2=>by rw[h1] at h2;cases h2;exact zdD (Wq.1 hl x (Wj h1))
 cases a with
 | agg l=>exact .agg _ _ _ rfl (key l h)
 | tup l=>exact .tup _ _ _ rfl (key l h)
 | _=>exact zdD h
theorem zuh{H:AH}{D:Nat→Nat→Prop}:∀{l:List AV},l.all AV.flat=true→Lend H D l l
 | [],_=>.nil
 |
  a::l,h=>by
  simp only[List.all_cons,Wf] at h;exact .cons (zai h.1) (zuh h.2)
theorem zf{P:Program}{f:FuncId}{l:List AV}{r:AV}{H:AH}{nx:Nat}(h:zz P f l (·=r))(hl:l.all AV.flat=true):zeZ P f l H nx r :=
 zaH h (zuh (D:=noR) hl) (.inr fun _ _ h=>h)
structure Stm where
 op:Int
 var:Int
 width:Int
 next:Int
 els:Int
 tgt:Int
 e:AV
 cases:List Int
def Stm.cells(s:Stm):List AV:=[.int .i64 s.op,.int .i64 s.var,.int .i64 s.width,.int .i64 s.next,.int .i64 s.els,.int .u32 s.tgt,s.e,za s.cases]
structure Blk where
 addr:Int
 stmts:List Stm
def Blk.cells(b:Blk):List AV:=[.int .u32 b.addr,encL 8 Stm.cells b.stmts]
structure Gr where
 addr:Int
 blocks:List Blk
def Gr.cells(g:Gr):List AV:=[.int .u32 g.addr,encL 2 Blk.cells g.blocks]
theorem Gr.two(g:Gr):[g.cells.getD 0 .undef,g.cells.getD 1 .undef]=g.cells:=rfl
def Blk.targets(b:Blk):List Int:=match b.stmts.getLast? with
 | none=>[]
 | some s=>if s.op=6 then [s.next] else if s.op=7 then [s.next,s.els] else if s.op=8 then s.cases else []
def ldRow(agg:Bool)(n i f g:Nat)(o:Option AObj)(H:AH)(nx:Nat):ORes:=match o with
 |
  some (.row sz els g') =>
  let v:=bif agg then .agg (bif Wa f 0&&Wa n sz then els.getD i [] else sub (els.getD i []) f n) else (els.getD i []).getD f .undef
  ⟨g=g'∧i < els.length∧f+n≤sz,v.wf,v,H,nx⟩
 | _=>bad H nx
def stRow(n r q i f g:Nat)(v:AV)(o:Option AObj)(H:AH)(nx:Nat):ORes:=match o with
 |
  some (.row sz els g') =>
  ⟨g=g'∧i < els.length∧f+n≤sz∧v.solid=true∧v.cells.length=n,True,.undef,
    H.set r q (.row sz (els.set i (bif Wa f 0&&Wa n sz then v.cells else splice (els.getD i []) f v.cells)) g'),nx⟩
 | _=>bad H nx
def ixRow(sz r q g off n:Nat)(k:Int)(o:Option AObj)(H:AH)(nx:Nat):ORes:=match o with
 | some (.row sz' _ g')=>⟨sz'=sz∧g=g'∧0≤k∧k < n,True,.ptr r q g (off+k.toNat) 0,H,nx⟩
 | _=>bad H nx
def zAF(sz r q g off n:Nat)(a b:Int)(o:Option AObj)(H:AH)(nx:Nat):ORes:=match o with
 | some (.row sz' _ g')=>⟨sz'=sz∧g=g'∧0≤a∧a≤b∧b≤n,True,.own r q g (off+a.toNat) (b - a).toNat,H,nx⟩
 | _=>bad H nx
def clRow(sz r q g off n:Nat)(zero:List AV)(o:Option AObj)(H:AH)(nx:Nat):ORes:=match o with
 | some (.row sz' els g')=>⟨sz'=sz∧g=g'∧off+n≤els.length,True,.undef,H.set r q (.row sz (els.take off++Wc n zero++els.drop (off+n)) g'),nx⟩
 | _=>bad H nx
def elRow(sz g off n:Nat)(o:Option AObj):Option (List (List AV)):=match o with
 | some (.row sz' els g')=>bif Wa sz' sz&&Wa g g' then some ((els.drop off).take n) else none
 | _=>none
def ftRow(off n:Nat)(o:Option AObj):Prop:=match o with
 | some (.row _ els _)=>off+n≤els.length
 | _=>False
def zDB(sz bytes r q g off n m:Nat)(news:List (List AV))(ft:Prop)(o:Option AObj)(H:AH)(nx:Nat):ORes:=match o with
 |
  some (.row sz' els g') =>
  ⟨sz'=sz∧g=g'∧off+n≤els.length∧ft∧(n+m) * bytes≤140737488355328,True,.own r q (g+1) 0 (n+m),H.set r q (.row sz ((els.drop off).take n++news) (g+1)),nx⟩
 | _=>bad H nx
def apTo(sz bytes:Nat)(x:AV)(news:Option (List (List AV)))(m:Option Nat)(ft:Prop)(H:AH)(nx:Nat):ORes:=match news,m with
 |
  some news,some m=>match x with
  | .own r q g off n=>zDB sz bytes r q g off n m news ft (H.get r q) H nx
  | .nilsl | .cut=>⟨ft∧m * bytes≤140737488355328,True,.own nx 0 0 0 m,H.set nx 0 (.row sz news 0),nx+1⟩
  | _=>bad H nx
 | _,_=>bad H nx
theorem zvA{sz bytes:Nat}{x y:AV}{H:AH}{nx:Nat}:zhn sz bytes x y H nx=apTo sz bytes x (zgy sz y H) (lenV y) (fits H y) H nx:=by
 unfold zhn apTo
 cases zgy sz y H with
 | none=>rfl
 |
  some news =>
  cases lenV y with
  | none=>rfl
  |
   some m =>
   cases x<;>try rfl
   all_goals
    simp only[zDB]
    split<;>rfl
theorem zyM{l:List AV}:splice l 0 []=l:=by simp[splice]
theorem zwy{a v:AV}{l vs:List AV}:splice (a::l) 0 (v::vs)=v::splice l 0 vs:=by simp[splice]
theorem zv5{a:AV}{l vs:List AV}{n:Nat}:splice (a::l) (n+1) vs=a::splice l n vs:=by simp only[splice,List.take_succ_cons,Wz];rw[show n+1+vs.length=(n+vs.length)+1 by omega,List.drop_succ_cons]
theorem evR :
 (∀{sz r q g off n:Nat}{zero:List AV}{H:AH}{nx:Nat},zj0 sz zero (.own r q g off n) H nx=clRow sz r q g off n zero (H.get r q) H nx) ∧
 (∀ {sz r q g off n sz' g':Nat} {zero:List AV} {els:List (List AV)} {H:AH} {nx:Nat},clRow sz r q g off n zero (some (.row sz' els g')) H nx=⟨sz'=sz∧g=g'∧off+n≤els.length,True,.undef,H.set r q (.row sz (els.take off++Wc n zero++els.drop (off+n)) g'),nx⟩) ∧
 (∀{r q g off n:Nat}{H:AH}{nx:Nat},cutR (.own r q g off n) H nx=⟨True,True,.cut,H,nx⟩)∧(∀{H:AH}{nx:Nat},cutR .nilsl H nx=⟨True,True,.cut,H,nx⟩)∧(∀{H:AH}{nx:Nat},cutR .cut H nx=⟨True,True,.cut,H,nx⟩)∧(∀{α:Type}{sz:Nat}{f:α→List AV}{l:List α}{H:AH}{nx:Nat},cutR (encL sz f l) H nx=⟨True,True,.cut,H,nx⟩) ∧
 (∀{l:List AV},splice l 0 []=l)∧(∀{a v:AV}{l vs:List AV},splice (a::l) 0 (v::vs)=v::splice l 0 vs)∧(∀{a:AV}{l vs:List AV}{n:Nat},splice (a::l) (n+1) vs=a::splice l n vs) ∧
 (∀{agg:Bool}{n r q g i f:Nat}{H:AH}{nx:Nat},zfo agg n (.ptr r q g i f) H nx=ldRow agg n i f g (H.get r q) H nx) ∧
 (∀{agg:Bool}{n m:Nat}{c:Nat→AV}{H:AH}{nx:Nat},zfo agg n (.iptr m c) H nx=⟨n≤m,(bif agg then .agg (tab c n 0) else c 0:AV).wf,bif agg then .agg (tab c n 0) else c 0,H,nx⟩) ∧
 (∀ {agg:Bool} {n i f g sz g':Nat} {els:List (List AV)} {H:AH} {nx:Nat},ldRow agg n i f g (some (.row sz els g')) H nx =
  ⟨g=g'∧i < els.length∧f+n≤sz,(bif agg then .agg (bif Wa f 0&&Wa n sz then els.getD i [] else sub (els.getD i []) f n) else (els.getD i []).getD f .undef:AV).wf,bif agg then .agg (bif Wa f 0&&Wa n sz then els.getD i [] else sub (els.getD i []) f n) else (els.getD i []).getD f .undef,H,nx⟩) ∧
 (∀{n r q g i f:Nat}{v:AV}{H:AH}{nx:Nat},zhu n (.ptr r q g i f) v H nx=stRow n r q i f g v (H.get r q) H nx) ∧
 (∀ {n r q i f g sz g':Nat} {els:List (List AV)} {v:AV} {H:AH} {nx:Nat},stRow n r q i f g v (some (.row sz els g')) H nx =
  ⟨g=g'∧i < els.length∧f+n≤sz∧v.solid=true∧v.cells.length=n,True,.undef,H.set r q (.row sz (els.set i (bif Wa f 0&&Wa n sz then v.cells else splice (els.getD i []) f v.cells)) g'),nx⟩) ∧
 (∀{sz r q g off n:Nat}{k:IntKind}{i:Int}{H:AH}{nx:Nat},idxR sz (.own r q g off n) (.int k i) H nx=ixRow sz r q g off n i (H.get r q) H nx) ∧
 (∀ {sz r q g off n sz' g':Nat} {els:List (List AV)} {i:Int} {H:AH} {nx:Nat},ixRow sz r q g off n i (some (.row sz' els g')) H nx=⟨sz'=sz∧g=g'∧0≤i∧i < n,True,.ptr r q g (off+i.toNat) 0,H,nx⟩) ∧
 (∀{r q g off n:Nat}{H:AH}{nx:Nat},lenR (.own r q g off n) H nx=⟨True,n≤9223372036854775807,.int .i64 n,H,nx⟩) ∧
 (∀{H:AH}{nx:Nat},lenR .nilsl H nx=⟨True,True,.int .i64 0,H,nx⟩) ∧
 (∀{H:AH}{nx:Nat},lenR .cut H nx=⟨True,True,.int .i64 0,H,nx⟩) ∧
 (∀{off n r q g i f:Nat}{H:AH}{nx:Nat},zeg off n (.ptr r q g i f) H nx=⟨True,True,.ptr r q g i (f+off),H,nx⟩) ∧
 (∀{off n m:Nat}{c:Nat→AV}{H:AH}{nx:Nat},zeg off n (.iptr m c) H nx=⟨off+n≤m,True,.iptr n (fun j=>c (off+j)),H,nx⟩) ∧
 (∀{sz r q g off n:Nat}{k k':IntKind}{a b:Int}{H:AH}{nx:Nat},zhR sz (.own r q g off n) (some (.int k a)) (some (.int k' b)) H nx=zAF sz r q g off n a b (H.get r q) H nx) ∧
 (∀{sz r q g off n:Nat}{k:IntKind}{a:Int}{H:AH}{nx:Nat},zhR sz (.own r q g off n) (some (.int k a)) none H nx=zAF sz r q g off n a n (H.get r q) H nx) ∧
 (∀{sz r q g off n:Nat}{k':IntKind}{b:Int}{H:AH}{nx:Nat},zhR sz (.own r q g off n) none (some (.int k' b)) H nx=zAF sz r q g off n 0 b (H.get r q) H nx) ∧
 (∀ {sz r q g off n sz' g':Nat} {els:List (List AV)} {a b:Int} {H:AH} {nx:Nat},zAF sz r q g off n a b (some (.row sz' els g')) H nx=⟨sz'=sz∧g=g'∧0≤a∧a≤b∧b≤n,True,.own r q g (off+a.toNat) (b - a).toNat,H,nx⟩) ∧
 (∀{sz bytes:Nat}{x y:AV}{H:AH}{nx:Nat},zhn sz bytes x y H nx=apTo sz bytes x (zgy sz y H) (lenV y) (fits H y) H nx) ∧
 (∀{sz r q g off n:Nat}{H:AH},zgy sz (.own r q g off n) H=elRow sz g off n (H.get r q)) ∧
 (∀{sz:Nat}{H:AH},zgy sz .nilsl H=some [])∧(∀{sz:Nat}{H:AH},zgy sz .cut H=some []) ∧
 (∀ {sz g off n sz' g':Nat} {els:List (List AV)},elRow sz g off n (some (.row sz' els g'))=bif Wa sz' sz&&Wa g g' then some ((els.drop off).take n) else none) ∧
 (∀{r q g off n:Nat},lenV (.own r q g off n)=some n)∧(lenV .nilsl=some 0)∧(lenV .cut=some 0)∧(∀{α:Type}{sz:Nat}{f:α→List AV}{l:List α},lenV (encL sz f l)=some l.length) ∧
 (∀{r q g off n:Nat}{H:AH},fits H (.own r q g off n)=ftRow off n (H.get r q))∧(∀{H:AH},fits H .nilsl=True)∧(∀{H:AH},fits H .cut=True)∧(∀{α:Type}{sz:Nat}{f:α→List AV}{l:List α}{H:AH},fits H (encL sz f l)=True) ∧
 (∀ {off n sz g:Nat} {els:List (List AV)},ftRow off n (some (.row sz els g))=(off+n≤els.length)) ∧
 (∀ {sz bytes r q g off n m:Nat} {news:List (List AV)} {ft:Prop} {H:AH} {nx:Nat},apTo sz bytes (.own r q g off n) (some news) (some m) ft H nx=zDB sz bytes r q g off n m news ft (H.get r q) H nx) ∧
 (∀ {sz bytes m:Nat} {news:List (List AV)} {ft:Prop} {H:AH} {nx:Nat},apTo sz bytes .nilsl (some news) (some m) ft H nx=⟨ft∧m * bytes≤140737488355328,True,.own nx 0 0 0 m,H.set nx 0 (.row sz news 0),nx+1⟩) ∧
 (∀ {sz bytes m:Nat} {news:List (List AV)} {ft:Prop} {H:AH} {nx:Nat},apTo sz bytes .cut (some news) (some m) ft H nx=⟨ft∧m * bytes≤140737488355328,True,.own nx 0 0 0 m,H.set nx 0 (.row sz news 0),nx+1⟩) ∧
 (∀ {sz bytes r q g off n m sz' g':Nat} {news els:List (List AV)} {ft:Prop} {H:AH} {nx:Nat},zDB sz bytes r q g off n m news ft (some (.row sz' els g')) H nx =
  ⟨sz'=sz∧g=g'∧off+n≤els.length∧ft∧(n+m) * bytes≤140737488355328,True,.own r q (g+1) 0 (n+m),H.set r q (.row sz ((els.drop off).take n++news) (g+1)),nx⟩) ∧
 (∀{α:Type}{sz:Nat}{f:α→List AV}{l:List α}{H:AH}{nx:Nat},lenR (encL sz f l) H nx=⟨True,l.length≤big,.int .i64 l.length,H,nx⟩) ∧
 (∀{α:Type}{sz:Nat}{f:α→List AV}{l:List α}{H:AH}{nx:Nat}{s:Nat}{k:IntKind}{i:Int},idxR s (encL sz f l) (.int k i) H nx=⟨sz=s∧0≤i∧i < l.length,True,.iptr s (fun j=>((l.map f).getD i.toNat []).getD j .undef),H,nx⟩):=by
 refine⟨rfl,rfl,rfl,rfl,rfl,rfl,zyM,zwy,zv5,rfl,rfl,rfl,rfl,rfl,rfl,rfl,rfl,rfl,rfl,rfl,rfl,?_,?_,?_,rfl,zvA,rfl,rfl,rfl,rfl,rfl,rfl,rfl,rfl,rfl,rfl,rfl,rfl,rfl,rfl,rfl,rfl,rfl,rfl,rfl⟩
 all_goals
  intro sz r q g off n;intros;rename_i H nx;simp only[zhR,zAF]
  cases H.get r q with
  | none=>rfl
  | some o=>cases o<;>rfl
def zDe(r q g off n:Nat)(o:Option AObj)(H:AH)(nx:Nat):ORes:=match o with
 | some (.row sz els g')=>⟨sz=1∧g=g'∧0 < n,True,.own r q g off n,H.set r q (.row sz els g'),nx⟩
 | _=>bad H nx
def zDK(r q g off n:Nat)(s:ByteArray)(o:Option AObj)(H:AH)(nx:Nat):ORes:=match o with
 |
  some (.row sz' els g') =>
  ⟨sz'=1∧g=g'∧off+n≤els.length∧n+s.size≤140737488355328,True,.own r q (g+1) 0 (n+s.size),H.set r q (.row 1 ((els.drop off).take n++s.data.toList.map zlC) (g+1)),nx⟩
 | _=>bad H nx
def zCF(sz r q g off n:Nat)(b c:Int)(o:Option AObj)(H:AH)(nx:Nat):ORes:=match o with
 | some (.row sz' _ g')=>⟨sz'=sz∧g=g'∧0≤b∧b≤c∧c≤n,True,.own r q g off b.toNat,H,nx⟩
 | _=>bad H nx
def eqTo(neg:Bool)(o:Option Bool)(H:AH)(nx:Nat):ORes:=match o with
 | some t=>⟨True,True,.bool (bif neg then !t else t),H,nx⟩
 | none=>bad H nx
def bsTo(ft:Prop)(lv:Bool)(o:Option (List UInt8))(H:AH)(nx:Nat):ORes:=match o with
 | some l=>⟨ft∧lv=true,(AV.str ⟨l.toArray⟩).wf,.str ⟨l.toArray⟩,H,nx⟩
 | none=>bad H nx
def zwP:Option (List (List AV))→Option (List UInt8)
 | some els=>zgN els
 | none=>none
def mlTo(str:Option IntKind)(ok:Bool)(zero k:AV)(sz g:Nat)(o:Option (Option (Nat × AV)))(H:AH)(nx:Nat):ORes:=match o with
 | some res=>⟨sz=3∧g=0∧zgw str k,(mgot ok zero res).wf,mgot ok zero res,H,nx⟩
 | none=>bad H nx
def zCg(str:Option IntKind)(ok:Bool)(zero k:AV)(o:Option AObj)(H:AH)(nx:Nat):ORes:=match o with
 | some (.row sz (_::es) g)=>mlTo str ok zero k sz g (zcA k es 0) H nx
 | _=>bad H nx
def msTo(str:Option IntKind)(r q:Nat)(k v:AV)(sz g:Nat)(c:Int)(u u':AV)(es:List (List AV))(o:Option (Option (Nat × AV)))(H:AH)(nx:Nat):ORes:=match o with
 | some (some (i,_))=>⟨sz=3∧g=0∧zgw str k,True,.undef,H.set r q (.row 3 ([.int .i64 c,u,u']::es.set i [k,v,(es.getD i []).getD 2 .undef]) 0),nx⟩
 | some none=>⟨sz=3∧g=0∧zgw str k∧c < 9223372036854775807,True,.undef,H.set r q (.row 3 ([.int .i64 (c+1),u,u']::(es++[[k,v,.int .i64 c]])) 0),nx⟩
 | none=>bad H nx
def zCt(str:Option IntKind)(r q:Nat)(k v:AV)(sz g:Nat)(u u':AV)(es:List (List AV))(o:Option (Option (Nat × AV)))(H:AH)(nx:Nat):ORes:=match o with
 | some (some (i,_))=>⟨sz=3∧g=0∧zgw str k,True,.undef,H.set r q (.row 3 ([.undef,u,u']::es.set i [k,v,(es.getD i []).getD 2 .undef]) 0),nx⟩
 | some none=>⟨sz=3∧g=0∧zgw str k,True,.undef,H.set r q (.row 3 ([.undef,u,u']::(es++[[k,v,.undef]])) 0),nx⟩
 | none=>bad H nx
def zBA(str:Option IntKind)(r q:Nat)(k v:AV)(o:Option AObj)(H:AH)(nx:Nat):ORes:=match o with
 |
  some (.row sz (hd::es) g)=>match hd with
  | [.int .i64 c,u,u']=>msTo str r q k v sz g c u u' es (zcA k es 0) H nx
  | [.undef,u,u']=>zCt str r q k v sz g u u' es (zcA k es 0) H nx
  | _=>bad H nx
 | _=>bad H nx
theorem zC9{x:AV}{H:AH}{nx:Nat}:b2sR x H nx=bsTo (fits H x) (lenV x).isSome (zwP (zgy 1 x H)) H nx:=by
 unfold b2sR zwP bsTo
 cases zgy 1 x H with
 | none=>rfl
 | some els=>rfl
theorem zxU{str:Option IntKind}{ok:Bool}{z k:AV}{r q:Nat}{H:AH}{nx:Nat}:zjV str ok z (.mp r q) k H nx=zCg str ok z k (H.get r q) H nx:=by
 simp only[zjV,zCg]
 cases H.get r q with
 | none=>rfl
 |
  some o =>
  cases o with
  | fam _ _=>rfl
  |
   row sz els g =>
   cases els with
   | nil=>rfl
   | cons hd es=>rfl
theorem zAp{str:Option IntKind}{k v:AV}{r q:Nat}{H:AH}{nx:Nat}:znz str (.mp r q) k v H nx=zBA str r q k v (H.get r q) H nx:=by
 simp only[znz,zBA]
 cases H.get r q with
 | none=>rfl
 |
  some o =>
  cases o with
  | fam _ _=>rfl
  |
   row sz els g =>
   cases els with
   | nil=>rfl
   |
    cons hd es =>
    simp only;split
    · rfl
    · rfl
    ·
     rename_i hno1 hno2;split
     · exact(hno1 _ _ _ rfl).elim
     · exact(hno2 _ _ rfl).elim
     · rfl
theorem zC2{sz r q g off n:Nat}{k k':IntKind}{b c:Int}{H:AH}{nx:Nat}:sl3R sz (.own r q g off n) (.int k b) (.int k' c) H nx=zCF sz r q g off n b c (H.get r q) H nx:=by
 simp only[sl3R,zCF]
 cases H.get r q with
 | none=>rfl
 | some o=>cases o<;>rfl
theorem zzY{r q g off n:Nat}{s:ByteArray}{H:AH}{nx:Nat}:zpQ (.own r q g off n) (.str s) H nx=zDK r q g off n s (H.get r q) H nx:=by
 simp only[zpQ,zDK]
 cases H.get r q with
 | none=>rfl
 | some o=>cases o<;>rfl
theorem zzV{r q g off n:Nat}{H:AH}{nx:Nat}:zq4 (.own r q g off n) H nx=zDe r q g off n (H.get r q) H nx:=by
 simp only[zq4,zDe]
 cases H.get r q with
 | none=>rfl
 | some o=>cases o<;>rfl
theorem zvh{l:List UInt8}:zgN (l.map zlC)=some l:=by
 induction l with
 | nil=>rfl
 | cons b l ih=>simp[zgN,zlC,ih]
theorem evX :
 (∀{r q g i f:Nat}{H:AH}{nx:Nat},xopR .nilck [.ptr r q g i f] H nx=⟨True,True,.ptr r q g i f,H,nx⟩) ∧
 (∀{n:Nat}{c:Nat→AV}{H:AH}{nx:Nat},xopR .nilck [.iptr n c] H nx=⟨True,True,.iptr n c,H,nx⟩) ∧
 (∀{n:Nat}{c:List AV}{H:AH}{nx:Nat},xopR .nilck [encP n c] H nx=⟨True,True,encP n c,H,nx⟩) ∧
 (∀{neg:Bool}{a b:ByteArray}{H:AH}{nx:Nat},xopR (.seq neg) [.str a,.str b] H nx=⟨True,True,.bool (bif neg then !decide (a=b) else decide (a=b)),H,nx⟩) ∧
 (∀{s:ByteArray}{k:IntKind}{i:Int}{H:AH}{nx:Nat},xopR .sidx [.str s,.int k i] H nx=⟨0≤i∧i < s.size,True,.int .u8 (zso s i.toNat),H,nx⟩) ∧
 (∀{s:ByteArray}{H:AH}{nx:Nat},xopR .s2b [.str s] H nx=⟨True,True,.own nx 0 0 0 s.size,H.set nx 0 (.row 1 (s.data.toList.map zlC) 0),nx+1⟩) ∧
 (∀{x:AV}{H:AH}{nx:Nat},xopR .b2s [x] H nx=bsTo (fits H x) (lenV x).isSome (zwP (zgy 1 x H)) H nx) ∧
 (∀{ft:Prop}{lv:Bool}{l:List UInt8}{H:AH}{nx:Nat},bsTo ft lv (some l) H nx=⟨ft∧lv=true,(⟨l.toArray⟩:ByteArray).size≤big,.str ⟨l.toArray⟩,H,nx⟩) ∧
 (∀ {els:List (List AV)},zwP (some els)=zgN els) ∧
 (∀{l:List UInt8},zgN (l.map zlC)=some l) ∧
 (∀{r q g off n:Nat}{H:AH}{nx:Nat},xopR .mark [.own r q g off n] H nx=zDe r q g off n (H.get r q) H nx) ∧
 (∀ {r q g off n sz g':Nat} {els:List (List AV)} {H:AH} {nx:Nat},zDe r q g off n (some (.row sz els g')) H nx=⟨sz=1∧g=g'∧0 < n,True,.own r q g off n,H.set r q (.row sz els g'),nx⟩) ∧
 (∀{r q g off n:Nat}{s:ByteArray}{H:AH}{nx:Nat},xopR .sapp [.own r q g off n,.str s] H nx=zDK r q g off n s (H.get r q) H nx) ∧
 (∀ {r q g off n sz g':Nat} {s:ByteArray} {els:List (List AV)} {H:AH} {nx:Nat},zDK r q g off n s (some (.row sz els g')) H nx =
  ⟨sz=1∧g=g'∧off+n≤els.length∧n+s.size≤140737488355328,True,.own r q (g+1) 0 (n+s.size),H.set r q (.row 1 ((els.drop off).take n++s.data.toList.map zlC) (g+1)),nx⟩) ∧
 (∀{s:ByteArray}{H:AH}{nx:Nat},xopR .sapp [.nilsl,.str s] H nx=⟨s.size≤140737488355328,True,.own nx 0 0 0 s.size,H.set nx 0 (.row 1 (s.data.toList.map zlC) 0),nx+1⟩) ∧
 (∀{s:ByteArray}{H:AH}{nx:Nat},xopR .sapp [.cut,.str s] H nx=⟨s.size≤140737488355328,True,.own nx 0 0 0 s.size,H.set nx 0 (.row 1 (s.data.toList.map zlC) 0),nx+1⟩) ∧
 (∀{k k':IntKind}{a b:Int}{H:AH}{nx:Nat},xopR .min [.int k a,.int k' b] H nx=⟨k=k',True,.int k (if b < a then b else a),H,nx⟩) ∧
 (∀{k k':IntKind}{a b:Int}{H:AH}{nx:Nat},xopR .max [.int k a,.int k' b] H nx=⟨k=k',True,.int k (if a < b then b else a),H,nx⟩) ∧
 (∀{neg:Bool}{ss:List Nat}{a b:List AV}{H:AH}{nx:Nat},xopR (.eqs neg ss) [.agg a,.agg b] H nx=eqTo neg (zM ss a b) H nx) ∧
 (∀{neg t:Bool}{H:AH}{nx:Nat},eqTo neg (some t) H nx=⟨True,True,.bool (bif neg then !t else t),H,nx⟩) ∧
 (zM [] [] []=some true) ∧
 (∀{s:List Nat}{k:IntKind}{a b:Int}{l m:List AV},zM (0::s) (.int k a::l) (.int k b::m)=(zM s l m).map (decide (a=b)&&·)) ∧
 (∀{s:List Nat}{a b:ByteArray}{l m:List AV},zM (1::s) (.str a::l) (.str b::m)=(zM s l m).map (decide (a=b)&&·)) ∧
 (∀{s:List Nat}{a b:Bool}{l m:List AV},zM (2::s) (.bool a::l) (.bool b::m)=(zM s l m).map ((a == b)&&·)) ∧
 (∀{f:Bool→Bool}{a:Bool},Option.map f (some a)=some (f a)) ∧
 (∀{sz r q g off n:Nat}{k k':IntKind}{b c:Int}{H:AH}{nx:Nat},xopR (.sl3 sz) [.own r q g off n,.int k b,.int k' c] H nx=zCF sz r q g off n b c (H.get r q) H nx) ∧
 (∀ {sz r q g off n sz' g':Nat} {b c:Int} {els:List (List AV)} {H:AH} {nx:Nat},zCF sz r q g off n b c (some (.row sz' els g')) H nx=⟨sz'=sz∧g=g'∧0≤b∧b≤c∧c≤n,True,.own r q g off b.toNat,H,nx⟩) ∧
 (∀{sz:Nat}{k k':IntKind}{b c:Int}{H:AH}{nx:Nat},xopR (.sl3 sz) [.nilsl,.int k b,.int k' c] H nx=⟨b=0∧c=0,True,.nilsl,H,nx⟩) ∧
 (∀{H:AH}{nx:Nat},xopR .mkmap [] H nx=⟨True,True,.mp nx 0,H.set nx 0 (.row 3 [[.int .i64 0,.undef,.undef]] 0),nx+1⟩) ∧
 (∀{str:Option IntKind}{ok:Bool}{z k:AV}{r q:Nat}{H:AH}{nx:Nat},xopR (.mlook str ok z) [.mp r q,k] H nx=zCg str ok z k (H.get r q) H nx) ∧
 (∀ {str:Option IntKind} {ok:Bool} {z k:AV} {sz g:Nat} {hd:List AV} {es:List (List AV)} {H:AH} {nx:Nat},zCg str ok z k (some (.row sz (hd::es) g)) H nx=mlTo str ok z k sz g (zcA k es 0) H nx) ∧
 (∀ {str:Option IntKind} {ok:Bool} {z k:AV} {sz g:Nat} {res:Option (Nat × AV)} {H:AH} {nx:Nat},mlTo str ok z k sz g (some res) H nx=⟨sz=3∧g=0∧zgw str k,(mgot ok z res).wf,mgot ok z res,H,nx⟩) ∧
 (∀{str:Option IntKind}{k v:AV}{r q:Nat}{H:AH}{nx:Nat},xopR (.mset str) [.mp r q,k,v] H nx=zBA str r q k v (H.get r q) H nx) ∧
 (∀ {str:Option IntKind} {k v:AV} {r q sz g:Nat} {c:Int} {u u':AV} {es:List (List AV)} {H:AH} {nx:Nat},zBA str r q k v (some (.row sz ([.int .i64 c,u,u']::es) g)) H nx=msTo str r q k v sz g c u u' es (zcA k es 0) H nx) ∧
 (∀ {str:Option IntKind} {k v:AV} {r q sz g i:Nat} {c:Int} {u u' x:AV} {es:List (List AV)} {H:AH} {nx:Nat},msTo str r q k v sz g c u u' es (some (some (i,x))) H nx =
  ⟨sz=3∧g=0∧zgw str k,True,.undef,H.set r q (.row 3 ([.int .i64 c,u,u']::es.set i [k,v,(es.getD i []).getD 2 .undef]) 0),nx⟩) ∧
 (∀ {str:Option IntKind} {k v:AV} {r q sz g:Nat} {c:Int} {u u':AV} {es:List (List AV)} {H:AH} {nx:Nat},msTo str r q k v sz g c u u' es (some none) H nx =
  ⟨sz=3∧g=0∧zgw str k∧c < 9223372036854775807,True,.undef,H.set r q (.row 3 ([.int .i64 (c+1),u,u']::(es++[[k,v,.int .i64 c]])) 0),nx⟩) ∧
 (∀{q k:IntKind}{n:Int},zgw (some q) (.int k n)=(q=k))∧(∀{s:ByteArray},zgw none (.str s)=True) ∧
 (∀ {z:AV} {r:Option (Nat × AV)},mgot false z r=mval z r)∧(∀ {z:AV} {r:Option (Nat × AV)},mgot true z r=.tup [mval z r,.bool r.isSome]) ∧
 (∀{z v:AV}{i:Nat},mval z (some (i,v))=v)∧(∀{z:AV},mval z none=z) ∧
 (∀{r q:Nat},AV.cells (.mp r q)=[.mp r q])∧(AV.cells .nilmp=[.nilmp])∧(∀{r:Nat},AV.cells (.it r)=[.it r]) ∧
 (∀{r q:Nat},AV.solid (.mp r q)=true)∧(AV.solid .nilmp=true)∧(∀{r:Nat},AV.solid (.it r)=true) ∧
 (∀{r q:Nat},AV.wf (.mp r q)=True)∧(AV.wf .nilmp=True)∧(∀{r:Nat},AV.wf (.it r)=True) ∧
 (∀{s:ByteArray}{H:AH}{nx:Nat},zrD (.str s) H nx=⟨True,s.size≤big,.int .i64 s.size,H,nx⟩) ∧
 (∀{b:Bool},(!!b)=b):=by
 refine⟨rfl,rfl,rfl,rfl,rfl,rfl,zC9,rfl,rfl,zvh,zzV,rfl,zzY,rfl,rfl,rfl,rfl,rfl,?_,rfl,?_,?_,?_,?_,rfl,@fun sz r q g off n k k' b c H nx=>zC2 (k:=k) (k':=k'),rfl,rfl,rfl,zxU,rfl,rfl,zAp,rfl,rfl,rfl,rfl,rfl,rfl,rfl,rfl,rfl,rfl,rfl,rfl,rfl,rfl,rfl,rfl,rfl,rfl,rfl,by simp⟩
 ·
  intro neg ss a b H nx;show eqsR neg ss (.agg a) (.agg b) H nx=_;unfold eqsR eqTo;simp only
  cases h:zM ss a b<;>simp only[h]
 · simp[zM]
 · intro s k a b l m;simp[zM]
 · intro s a b l m;simp[zM]
 · intro s a b l m;simp[zM]
section
variable {H HH:AH} {σ:Nat→Nat→Option (Nat × Nat × Nat)} {D:Nat→Nat→Prop} {t:Bool}
theorem zyx{k k':IntKind}{n m:Int}:Vw H HH σ D t (.int k n) (.int k' m)=(k=k'∧n=m):=by refine propext ⟨fun h=>by cases h;exact⟨rfl,rfl⟩,?_⟩;rintro⟨rfl,rfl⟩;exact .int _ _ _
theorem zwk{a b:Bool}:Vw H HH σ D t (.bool a) (.bool b)=(a=b):=by refine propext ⟨fun h=>by cases h;rfl,?_⟩;rintro rfl;exact .bool _ _
theorem zyu{r q g o n r' q' g' o' n':Nat}:Vw H HH σ D true (.own r q g o n) (.own r' q' g' o' n')=((σ r' q'=some (r,q,g - g')∧g'≤g)∧o=o'∧n=n'):=by
 refine propext ⟨fun h=>?_,?_⟩
 · cases h;rename_i d hs hg;subst hg;exact⟨⟨by rw[hs,WA],by omega⟩,rfl,rfl⟩
 · rintro⟨⟨h1,h2⟩,rfl,rfl⟩;exact .own r q g (g - g') o n r' q' g' h1 (by omega)
theorem zyO{r q g i f r' q' g' i' f':Nat}:Vw H HH σ D true (.ptr r q g i f) (.ptr r' q' g' i' f')=((σ r' q'=some (r,q,g - g')∧g'≤g)∧i=i'∧f=f'):=by
 refine propext ⟨fun h=>?_,?_⟩
 · cases h;rename_i d hs hg;subst hg;exact⟨⟨by rw[hs,WA],by omega⟩,rfl,rfl⟩
 · rintro⟨⟨h1,h2⟩,rfl,rfl⟩;exact .ptr r q g (g - g') i f r' q' g' h1 (by omega)
def VwL(H HH:AH)(σ:Nat→Nat→Option (Nat × Nat × Nat))(D:Nat→Nat→Prop)(t:Bool):List AV→List AV→Prop
 | [],[]=>True
 | a::l,b::m=>Vw H HH σ D t a b∧VwL H HH σ D t l m
 | _,_=>False
theorem VwL.get:∀{l m:List AV},VwL H HH σ D t l m→l.length=m.length∧∀(i:Nat)(a b:AV),l[i]? = some a→m[i]? = some b→Vw H HH σ D t a b
 | [],[],_=>⟨rfl,fun i a b h=>by cases h⟩
 |
  a::l,b::m,h=>by
  obtain⟨h1,h2⟩:=VwL.get h.2;refine⟨by simp[h1],fun i x y hx hy=>?_⟩
  cases i with
  | zero=>cases hx;cases hy;exact h.1
  | succ i=>exact h2 i x y (by simpa using hx) (by simpa using hy)
 | [],b::m,h=>h.elim
 | a::l,[],h=>h.elim
theorem VwL.of:∀{l m:List AV},l.length=m.length→(∀(i:Nat)(a b:AV),l[i]? = some a→m[i]? = some b→Vw H HH σ D t a b)→VwL H HH σ D t l m
 | [],[],_,_=>trivial
 | a::l,b::m,h,hh=>⟨hh 0 a b rfl rfl,VwL.of (by simpa using h) (fun i x y hx hy=>hh (i+1) x y (by simpa using hx) (by simpa using hy))⟩
 | [],b::m,h,_=>by cases h
 | a::l,[],h,_=>by cases h
theorem zzE{f f':Fn}{l m:List AV}:Vw H HH σ D t (.fn f l) (.fn f' m)=(f=f'∧VwL H HH σ D t l m):=by
 refine propext ⟨fun h=>?_,?_⟩
 ·
  cases h with
  | fn _ _ _ _ hl h=>exact⟨rfl,VwL.of hl h⟩
 · rintro⟨rfl,h⟩;exact .fn _ _ _ _ h.get.1 h.get.2
theorem zym{l m:List AV}:Vw H HH σ D t (.agg l) (.agg m)=VwL H HH σ D t l m:=by
 refine propext ⟨fun h=>?_,fun h=>.agg _ _ _ h.get.1 h.get.2⟩
 cases h with
 | agg _ _ _ hl h=>exact VwL.of hl h
theorem zyI{l m:List AV}:Vw H HH σ D t (.tup l) (.tup m)=VwL H HH σ D t l m:=by
 refine propext ⟨fun h=>?_,fun h=>.tup _ _ _ h.get.1 h.get.2⟩
 cases h with
 | tup _ _ _ hl h=>exact VwL.of hl h
theorem zyd{r' q' g' o n:Nat}:Vw H HH σ D true .nilsl (.own r' q' g' o n)=(σ r' q'=none∧(∃sz,HH.get r' q'=some (.row sz [] 0))∧g'=0∧o=0∧n=0):=by
 refine propext ⟨fun h=>?_,?_⟩
 ·
  cases h with
  | new _ _ sz hs hg=>exact⟨hs,⟨sz,hg⟩,rfl,rfl,rfl⟩
 · rintro⟨h1,⟨sz,h2⟩,rfl,rfl,rfl⟩;exact .new _ _ sz h1 h2
def zCb(H HH:AH)(σ:Nat→Nat→Option (Nat × Nat × Nat))(D:Nat→Nat→Prop)(sz:Nat)(els2:List (List AV))(g:Nat)(o:Option AObj):Prop:=match o with
 | some (.row sz' els g')=>(sz'=sz∧g'=g)∧RowV H HH σ D els els2
 | _=>False
def zA3(H HH:AH)(tb:Tab)(ds:List Nat)(sz:Nat)(els2:List (List AV))(g2:Nat):Option (Nat × Nat)→Prop
 | some (r,d)=>zCb H HH tb.sig (inD ds) sz els2 (g2+d) (H.get r 0)
 | none=>els2=[]∧g2=0
theorem zsZ{tb:Tab}{ds:List Nat}{n r' sz g2:Nat}{els2:List (List AV)}{u:AH}:
  zly H HH tb ds n ((r',.row sz els2 g2)::u)=(r' < n∧zA3 H HH tb ds sz els2 g2 (tb.at r')∧zly H HH tb ds n u):=by
 simp only[zly,Wl]
 congr 2
 cases tb.at r' with
 | none=>rfl
 |
  some p =>
  obtain⟨r,d⟩:=p;simp only[zA3,zCb];refine propext ⟨?_,fun h=>?_⟩
  · rintro⟨els,h1,h2⟩;rw[h1];exact⟨⟨rfl,rfl⟩,h2⟩
  ·
   cases ho:H.get r 0 with
   | none=>rw[ho] at h;exact h.elim
   |
    some o =>
    rw[ho] at h
    cases o with
    | fam _ _=>exact h.elim
    |
     row sz' els g' =>
     obtain⟨⟨rfl,rfl⟩,h⟩:=h;exact⟨els,rfl,h⟩
theorem zkn{els:List (List AV)}(h:∀c∈els,zH c=true):RowV H HH σ D els els:=by refine⟨rfl,fun i c2 hi=>?_⟩;refine⟨c2,hi,rfl,fun j x y h1 h2=>?_⟩;rw[h1] at h2;cases h2;exact zdD (zcU (h c2 (Wj hi)) h1)
theorem zk8{els:List (List AV)}(h:∀c∈els,zH c=true):RowV H HH σ D els els=True:=eq_true (zkn h)
def zr(els:List (List AV)):Prop:=∀c∈els,zH c=true
theorem zju:zr []=True:=by simp[zr]
theorem zh4{c:List AV}{l:List (List AV)}:zr (c::l)=(zH c=true∧zr l):=by simp[zr]
theorem ziw{l m:List (List AV)}:zr (l++m)=(zr l∧zr m):=by unfold zr;simp only[List.mem_append,eq_iff_iff];exact⟨fun h=>⟨fun c hc=>h c (.inl hc),fun c hc=>h c (.inr hc)⟩,fun h c hc=>hc.elim (h.1 c) (h.2 c)⟩
theorem zlL{α:Type}{f:α→List AV}{l:List α}:zr (l.map f)=∀a∈l,zH (f a)=true:=by simp[zr]
theorem zl0{n:Nat}{c:List AV}(h:zH c=true):zr (Wc n c)=True:=by
 refine eq_true fun x hx=>?_
 rw[(List.mem_replicate.1 hx).2];exact h
theorem zlB{l:List (List AV)}{i:Nat}{c:List AV}(h:zH c=true)(hl:zr l):zr (l.set i c)=True:=by
 refine eq_true fun x hx=>?_
 rcases List.mem_or_eq_of_mem_set hx with hx|rfl
 · exact hl x hx
 · exact h
theorem zBd{A:List (List AV)}{a b:List AV}(h:zr A):RowV H HH σ D (A++[a]) (A++[b])=VwL H HH σ D true a b:=by
 refine propext ⟨fun hr=>?_,fun hv=>?_⟩
 · obtain⟨c,h1,h2,h3⟩:=hr.2 A.length b (by simp);simp at h1;subst h1;exact VwL.of h2.symm h3
 ·
  refine⟨by simp,fun i c2 hi=>?_⟩
  by_cases hlt:i < A.length
  · rw[WB hlt] at hi;refine⟨c2,by rw[WB hlt];exact hi,rfl,fun j x y h1 h2=>?_⟩;rw[h1] at h2;cases h2;exact zdD (zcU (h c2 (Wj hi)) h1)
  ·
   have he:i=A.length:=by have:=(WC.1 hi).1;simp at this;omega
   subst he;simp at hi;subst hi;exact⟨a,by simp,hv.get.1.symm,hv.get.2⟩
abbrev cI(n:Int):List AV:=[.int .i64 n]
abbrev cN(n:Nat):List AV:=[.int .i64 (n:Int)]
abbrev cB(b:Bool):List AV:=[.bool b]
theorem zuL:RowV H HH σ D [] []=True:=eq_true (zkn (by simp))
theorem zDj{a b:List AV}:RowV H HH σ D [a] [b]=VwL H HH σ D true a b:=by
 refine propext ⟨fun h=>?_,fun h=>?_⟩
 · obtain⟨c,h1,h2,h3⟩:=h.2 0 b rfl;cases h1;exact VwL.of h2.symm h3
 ·
  refine⟨rfl,fun i c2 hi=>?_⟩
  cases i with
  | zero=>cases hi;exact⟨a,rfl,h.get.1.symm,h.get.2⟩
  | succ i=>simp at hi
theorem zEd{r' q':Nat}:Tab.sig [] r' q'=none:=rfl
theorem zCq{a b d r' q':Nat}{tb:Tab}:Tab.sig ((a,b,d)::tb) r' q'=bif a == r' then some (b,q',d) else Tab.sig tb r' q':=by
 unfold Tab.sig;simp only[Tab.at,zg5]
 cases a == r'<;>rfl
theorem at_nil{x:Nat}:Tab.at [] x=none:=rfl
theorem zBE{a b d x:Nat}{tb:Tab}:Tab.at ((a,b,d)::tb) x=bif a == x then some (b,d) else Tab.at tb x:=by simp only[Tab.at,zg5]
end
theorem ztC{α β:Type}{f:α→β}{l:List α}:(l.map f).take l.length=l.map f:=by rw[List.take_of_length_le (by simp)]
theorem evU:(∀{α β:Type}{f:α→β}{asv:List α},(asv.map f).length=asv.length)∧(∀{α β:Type}{f:α→β}{l:List α},(l.map f).take l.length=l.map f)∧(∀{α:Type}{l:List α},l.take l.length=l) ∧
  (∀n:Nat,n * 1=n)∧(∀n:Nat,1 * n=n)∧((!true)=false)∧((!false)=true)∧(∀{α β:Type}{f:α→β}{a:α},(some a).map f=some (f a))∧(∀{h:Decidable True},@decide True h=true)∧(∀{h:Decidable False},@decide False h=false) ∧
  (∀b:Bool,(false != b)=b)∧(∀b:Bool,(true != b) = !b)∧(∀b:Bool,(b != false)=b)∧(∀b:Bool,(b != true) = !b) :=
 ⟨List.length_map _,ztC,List.take_length,Nat.mul_one,Nat.one_mul,rfl,rfl,rfl,decide_true _,decide_false _,Bool.false_bne,Bool.true_bne,Bool.bne_false,Bool.bne_true⟩
theorem evV:(∀n:Nat,(n < n)=False)∧(∀{α β:Type}{f:α→β}{a b:List α},(a++b).map f=a.map f++b.map f)∧(∀{α β:Type}{f:α→β}{a:α}{l:List α},(a::l).map f=f a::l.map f)∧(∀{α β:Type}{f:α→β},[].map f=[]) ∧
  (∀{α:Type}{a b:List α},(a++b).length=a.length+b.length)∧(∀{α:Type}{a:α}{l:List α},(a::l).length=l.length+1)∧(∀{α:Type},([]:List α).length=0)∧(∀{α:Type}{p:α→Bool},[].filter p=[])∧(∀{α:Type}{l:List α},l.take 0=[]) ∧
  (∀{α β:Type}{f:α→β}{l:List α},(l.map f).length=l.length)∧(∀{α:Type}{n:Nat}{a:α},(Wc n a).length=n)∧(∀{α:Type}{l:List α}{i:Nat}{a:α},(l.set i a).length=l.length) ∧
  (∀a b:Nat,((a+b:Nat):Int)=a+b)∧(∀a:Int,0+a=a)∧(∀n:Nat,n+0=n)∧(∀n:Nat,n - n=0)∧(∀n:Nat,n - 0=n) :=
 ⟨fun _=>eq_false (Nat.lt_irrefl _),List.map_append,rfl,rfl,List.length_append,rfl,rfl,rfl,List.take_zero,List.length_map _,List.length_replicate,List.length_set,Int.natCast_add,Int.zero_add,Nat.add_zero,Nat.sub_self,Nat.sub_zero⟩
theorem evW :
 (∀{H HH:AH}{tb:Tab}{ds:List Nat}{K:Kn},zpd H HH tb ds [] K=True) ∧
 (∀{H HH:AH}{tb:Tab}{ds:List Nat}{K:Kn}{j:Nat}{v:AV}{u:Kn},zpd H HH tb ds ((j,v)::u) K=(Vw H HH tb.sig (inD ds) true (K.get j) v∧zpd H HH tb ds u K)) ∧
 (∀{H HH:AH}{tb:Tab}{ds:List Nat}{n:Nat},zly H HH tb ds n []=True) ∧
 (∀ {H HH:AH} {tb:Tab} {ds:List Nat} {n r' sz g2:Nat} {els2:List (List AV)} {u:AH},zly H HH tb ds n ((r',.row sz els2 g2)::u)=(r' < n∧zA3 H HH tb ds sz els2 g2 (tb.at r')∧zly H HH tb ds n u)) ∧
 (∀ {H HH:AH} {tb:Tab} {ds:List Nat} {sz g2 r d:Nat} {els2:List (List AV)},zA3 H HH tb ds sz els2 g2 (some (r,d))=zCb H HH tb.sig (inD ds) sz els2 (g2+d) (H.get r 0)) ∧
 (∀ {H HH:AH} {tb:Tab} {ds:List Nat} {sz g2:Nat} {els2:List (List AV)},zA3 H HH tb ds sz els2 g2 none=(els2=[]∧g2=0)) ∧
 (∀ {H HH:AH} {σ:Nat→Nat→Option (Nat × Nat × Nat)} {D:Nat→Nat→Prop} {sz g sz' g':Nat} {els els2:List (List AV)},zCb H HH σ D sz els2 g (some (.row sz' els g'))=((sz'=sz∧g'=g)∧RowV H HH σ D els els2)) ∧
 (∀ {H HH:AH} {σ:Nat→Nat→Option (Nat × Nat × Nat)} {D:Nat→Nat→Prop},RowV H HH σ D [] []=True) ∧
 (∀ {H HH:AH} {σ:Nat→Nat→Option (Nat × Nat × Nat)} {D:Nat→Nat→Prop} {A:List (List AV)} {a b:List AV},zr A→RowV H HH σ D (A++[a]) (A++[b])=VwL H HH σ D true a b) ∧
 (∀ {H HH:AH} {σ:Nat→Nat→Option (Nat × Nat × Nat)} {D:Nat→Nat→Prop} {els:List (List AV)},zr els→RowV H HH σ D els els=True) ∧
 (zr []=True)∧(∀ {c:List AV} {l:List (List AV)},zr (c::l)=(zH c=true∧zr l))∧(∀ {l m:List (List AV)},zr (l++m)=(zr l∧zr m)) ∧
 (∀{α:Type}{f:α→List AV}{l:List α},zr (l.map f)=∀a∈l,zH (f a)=true)∧(∀{n:Nat}{c:List AV},zH c=true→zr (Wc n c)=True) ∧
 (∀ {l:List (List AV)} {i:Nat} {c:List AV},zH c=true→zr l→zr (l.set i c)=True) ∧
 (∀ {H HH:AH} {σ:Nat→Nat→Option (Nat × Nat × Nat)} {D:Nat→Nat→Prop} {t:Bool} {a:AV},a.flat0=true→Vw H HH σ D t a a=True) ∧
 (∀ {H HH:AH} {σ:Nat→Nat→Option (Nat × Nat × Nat)} {D:Nat→Nat→Prop} {a b:List AV},RowV H HH σ D [a] [b]=VwL H HH σ D true a b) ∧
 (∀ {H HH:AH} {σ:Nat→Nat→Option (Nat × Nat × Nat)} {D:Nat→Nat→Prop} {t:Bool},VwL H HH σ D t [] []=True) ∧
 (∀ {H HH:AH} {σ:Nat→Nat→Option (Nat × Nat × Nat)} {D:Nat→Nat→Prop} {t:Bool} {a b:AV} {l m:List AV},VwL H HH σ D t (a::l) (b::m)=(Vw H HH σ D t a b∧VwL H HH σ D t l m)) ∧
 (∀ {H HH:AH} {σ:Nat→Nat→Option (Nat × Nat × Nat)} {D:Nat→Nat→Prop} {t:Bool} {k k':IntKind} {n m:Int},Vw H HH σ D t (.int k n) (.int k' m)=(k=k'∧n=m)) ∧
 (∀ {H HH:AH} {σ:Nat→Nat→Option (Nat × Nat × Nat)} {D:Nat→Nat→Prop} {t:Bool} {a b:Bool},Vw H HH σ D t (.bool a) (.bool b)=(a=b)) ∧
 (∀ {H HH:AH} {σ:Nat→Nat→Option (Nat × Nat × Nat)} {D:Nat→Nat→Prop} {r q g o n r' q' g' o' n':Nat},Vw H HH σ D true (.own r q g o n) (.own r' q' g' o' n')=((σ r' q'=some (r,q,g - g')∧g'≤g)∧o=o'∧n=n')) ∧
 (∀ {H HH:AH} {σ:Nat→Nat→Option (Nat × Nat × Nat)} {D:Nat→Nat→Prop} {r q g i f r' q' g' i' f':Nat},Vw H HH σ D true (.ptr r q g i f) (.ptr r' q' g' i' f')=((σ r' q'=some (r,q,g - g')∧g'≤g)∧i=i'∧f=f')) ∧
 (∀ {H HH:AH} {σ:Nat→Nat→Option (Nat × Nat × Nat)} {D:Nat→Nat→Prop} {t:Bool} {f f':Fn} {l m:List AV},Vw H HH σ D t (.fn f l) (.fn f' m)=(f=f'∧VwL H HH σ D t l m)) ∧
 (∀ {H HH:AH} {σ:Nat→Nat→Option (Nat × Nat × Nat)} {D:Nat→Nat→Prop} {t:Bool} {l m:List AV},Vw H HH σ D t (.agg l) (.agg m)=VwL H HH σ D t l m) ∧
 (∀ {H HH:AH} {σ:Nat→Nat→Option (Nat × Nat × Nat)} {D:Nat→Nat→Prop} {t:Bool} {l m:List AV},Vw H HH σ D t (.tup l) (.tup m)=VwL H HH σ D t l m) ∧
 (∀ {H HH:AH} {σ:Nat→Nat→Option (Nat × Nat × Nat)} {D:Nat→Nat→Prop} {r' q' g' o n:Nat},Vw H HH σ D true .nilsl (.own r' q' g' o n)=(σ r' q'=none∧(∃sz,HH.get r' q'=some (.row sz [] 0))∧g'=0∧o=0∧n=0)) ∧
 (∀ {H HH:AH} {σ:Nat→Nat→Option (Nat × Nat × Nat)} {D:Nat→Nat→Prop} {t:Bool} {a:AV},Vw H HH σ D t a .undef=True) ∧
 (∀ {H HH:AH} {σ:Nat→Nat→Option (Nat × Nat × Nat)} {D:Nat→Nat→Prop} {t:Bool},Vw H HH σ D t .nilsl .nilsl=True) ∧
 (∀ {H HH:AH} {σ:Nat→Nat→Option (Nat × Nat × Nat)} {D:Nat→Nat→Prop} {t:Bool},Vw H HH σ D t .nilfn .nilfn=True) ∧
 (∀ {H HH:AH} {σ:Nat→Nat→Option (Nat × Nat × Nat)} {D:Nat→Nat→Prop} {t:Bool},Vw H HH σ D t .nilp .nilp=True) ∧
 (∀ {H HH:AH} {σ:Nat→Nat→Option (Nat × Nat × Nat)} {D:Nat→Nat→Prop} {t:Bool},Vw H HH σ D t .cut .cut=True) ∧
 (∀ {H HH:AH} {σ:Nat→Nat→Option (Nat × Nat × Nat)} {D:Nat→Nat→Prop} {t:Bool} {s:ByteArray},Vw H HH σ D t (.str s) (.str s)=True) ∧
 (∀ {H HH:AH} {σ:Nat→Nat→Option (Nat × Nat × Nat)} {D:Nat→Nat→Prop} {t:Bool} {n:Nat} {c:Nat→AV},Vw H HH σ D t (.iptr n c) (.iptr n c)=True) ∧
 (∀ {H HH:AH} {σ:Nat→Nat→Option (Nat × Nat × Nat)} {D:Nat→Nat→Prop} {t:Bool} {sz n:Nat} {f:Nat→Nat→AV},Vw H HH σ D t (.sl sz n f) (.sl sz n f)=True) ∧
 (∀ {H HH:AH} {σ:Nat→Nat→Option (Nat × Nat × Nat)} {D:Nat→Nat→Prop} {t:Bool} {α:Type} {sz:Nat} {f:α→List AV} {l:List α},Vw H HH σ D t (encL sz f l) (encL sz f l)=True) ∧
 (∀ {H HH:AH} {σ:Nat→Nat→Option (Nat × Nat × Nat)} {D:Nat→Nat→Prop} {t:Bool} {α:Type} {sz:Nat} {f:α→List AV},Vw H HH σ D t .nilsl (encL sz f [])=True) ∧
 (∀{r' q':Nat},Tab.sig [] r' q'=none) ∧
 (∀{a b d r' q':Nat}{tb:Tab},Tab.sig ((a,b,d)::tb) r' q'=bif a == r' then some (b,q',d) else Tab.sig tb r' q') ∧
 (∀{x:Nat},Tab.at [] x=none) ∧
 (∀{a b d x:Nat}{tb:Tab},Tab.at ((a,b,d)::tb) x=bif a == x then some (b,d) else Tab.at tb x) ∧
 (∀{ds:List Nat}{r q:Nat},inD ds r q=(memN ds r=true)):=by
 refine⟨rfl,rfl,rfl,zsZ,rfl,rfl,rfl,zuL,zBd,zk8,zju,zh4,ziw,zlL,zl0,zlB,fun h=>eq_true (zdD h),zDj,rfl,rfl,zyx,zwk,zyu,zyO,zzE,zym,zyI,zyd,eq_true (.undef _ _),eq_true (.nilsl _),eq_true (.nilfn _),eq_true (.nilp _),eq_true (.cut _),eq_true (.str _ _),eq_true (.iptr _ _ _),eq_true (.sl _ _ _ _),eq_true (.sl _ _ _ _),eq_true zg,zEd,zCq,at_nil,zBE,rfl⟩
def Tab.to(tb:Tab)(nx r:Nat):Nat:=match tb.at r with
 | some (r',_)=>r'
 | none=>nx+r
def AH.renL(ρ:Nat→Nat):AH→AH
 | []=>[]
 | (r,o)::t=>(ρ r,o.ren ρ)::AH.renL ρ t
def AH.cutL(olds:List Nat):AH→AH
 | []=>[]
 | (r,o)::t=>bif memN olds r then AH.cutL olds t else (r,o)::AH.cutL olds t
def AH.over(H:AH)(tb:Tab)(nx:Nat)(H0:AH):AH:=H.cutL (tb.map (·.2.1))++H0.renL (tb.to nx)
def Tab.plain(nx:Nat):Tab→Bool
 | []=>true
 | (r',r,d)::t=>Wk r nx&&Wa d 0 && !(memN (t.map (·.1)) r')&&Tab.plain nx t
theorem Tab.plain_at{nx:Nat}:∀{t:Tab},t.plain nx=true→∀{x r d},t.at x=some (r,d)→r < nx∧d=0
 | [],_,x,r,d,h=>by cases h
 |
  (r',r0,d0)::t,h,x,r,d,hx=>by
  simp only[Tab.plain,Wf] at h;obtain⟨⟨⟨h1,h2⟩,_⟩,h3⟩:=h;simp only[Tab.at] at hx
  cases hb:Wa r' x with
  | true=>rw[hb] at hx;cases hx;exact⟨by simpa [Wl] using h1,zF h2⟩
  | false=>rw[hb] at hx;exact Tab.plain_at h3 hx
theorem Tab.at_mem:∀{t:Tab}{x r d},t.at x=some (r,d)→x∈t.map (·.1)∧r∈t.map (·.2.1)
 | [],x,r,d,h=>by cases h
 |
  (r',r0,d0)::t,x,r,d,h=>by
  simp only[Tab.at] at h
  cases hb:Wa r' x with
  | true=>rw[hb] at h;cases h;rw[←zF hb];simp
  |
   false =>
   rw[hb] at h;have:=Tab.at_mem h;exact⟨by simp only[Wm,Wo];exact .inr this.1,by simp only[Wm,Wo];exact .inr this.2⟩
theorem Tab.at_of_old{nx:Nat}:∀{t:Tab},t.plain nx=true→∀{r},r∈t.map (·.2.1)→∃x d,t.at x=some (r,d)
 | [],_,r,h=>by cases h
 |
  (r',r0,d0)::t,h,r,hr=>by
  simp only[Tab.plain,Wf,Wt] at h;obtain⟨⟨_,h2⟩,h3⟩:=h;simp only[Wm,Wo] at hr
  rcases hr with rfl|hr
  · exact⟨r',d0,by simp[Tab.at]⟩
  ·
   obtain⟨x,d,hx⟩:=Tab.at_of_old h3 hr;refine⟨x,d,?_⟩
   have:r'≠x:=fun e=>by have:=(za1 _ _).2 (Tab.at_mem hx).1;rw[←e,h2] at this;cases this
   simp only[Tab.at];rw[zeL this];exact hx
section
variable {tb:Tab} {nx nx0:Nat} {H H0:AH}
theorem Tab.to_inj(hok:tb.ok nx0 []=true)(hp:tb.plain nx=true){x y:Nat}(h:tb.to nx x=tb.to nx y):x=y:=by
 unfold Tab.to at h
 cases hx:tb.at x with
 |
  none =>
  cases hy:tb.at y with
  | none=>rw[hx,hy] at h;simp only at h;omega
  | some p=>rw[hx,hy] at h;have:=(Tab.plain_at hp (d:=p.2) hy).1;simp only at h;omega
 |
  some p =>
  cases hy:tb.at y with
  | none=>rw[hx,hy] at h;have:=(Tab.plain_at hp (d:=p.2) hx).1;simp only at h;omega
  |
   some p' =>
   rw[hx,hy] at h;simp only at h;exact Tab.ok_inj hok (d:=p.2) (e:=p'.2) hx (by rw[hy,h])
theorem AH.look_append(A B:AH)(r:Nat):AH.look (A++B) r=match A.look r with
  | some o=>some o
  | none=>B.look r:=by
 induction A with
 | nil=>rfl
 |
  cons p t ih =>
  obtain⟨j,o⟩:=p;simp only[Wz,AH.look,ih]
  cases Wa j r<;>rfl
theorem AH.look_cutL(l:List Nat)(H:AH)(r:Nat):(H.cutL l).look r=bif memN l r then none else H.look r:=by
 induction H with
 | nil=>simp only[AH.cutL,AH.look];cases memN l r<;>rfl
 |
  cons p t ih =>
  obtain⟨j,o⟩:=p;simp only[AH.cutL]
  cases hm:memN l j with
  |
   true =>
   simp only[cond_true,ih,AH.look]
   cases hb:Wa j r with
   | true=>rw[←zF hb,hm];rfl
   | false=>rfl
  |
   false =>
   simp only[cond_false,AH.look,ih]
   cases hb:Wa j r with
   | true=>rw[←zF hb,hm];rfl
   | false=>rfl
theorem AH.look_renL{ρ:Nat→Nat}(hρ:∀x y,ρ x=ρ y→x=y)(H:AH)(r:Nat):(H.renL ρ).look (ρ r)=(H.look r).map (AObj.ren ρ):=by
 induction H with
 | nil=>rfl
 |
  cons p t ih =>
  obtain⟨j,o⟩:=p;simp only[AH.renL,AH.look,ih]
  by_cases h:j=r
  · subst h;simp
  · rw[zeL h,zeL (fun e=>h (hρ _ _ e))];rfl
theorem AH.look_renL_no{ρ:Nat→Nat}(H:AH)(x:Nat)(hx:∀r,ρ r≠x):(H.renL ρ).look x=none:=by
 induction H with
 | nil=>rfl
 |
  cons p t ih =>
  obtain⟨j,o⟩:=p;simp only[AH.renL,AH.look,ih];rw[zeL (hx j)];rfl
theorem AH.over_in(hok:tb.ok nx0 []=true)(hp:tb.plain nx=true)(hH:∀r o,H.look r=some o→r < nx)(r q:Nat):
  (H.over tb nx H0).get (tb.to nx r) q=(H0.get r q).map (AObj.ren (tb.to nx)):=by
 unfold AH.get AH.over;rw[AH.look_append,AH.look_cutL,AH.look_renL (fun x y h=>Tab.to_inj hok hp h)]
 have:(bif memN (tb.map (·.2.1)) (tb.to nx r) then none else H.look (tb.to nx r))=none:=by
  unfold Tab.to
  cases hx:tb.at r with
  |
   some p =>
   simp only;rw[(za1 _ _).2 (Tab.at_mem (d:=p.2) hx).2];rfl
  |
   none =>
   simp only
   cases hl:H.look (nx+r) with
   | none=>cases memN (tb.map (·.2.1)) (nx+r)<;>rfl
   | some o=>have:=hH _ _ hl;omega
 rw[this];simp only
 cases H0.look r with
 | none=>rfl
 | some o=>simp[AObj.part_ren]
theorem AH.over_out(r q:Nat)(hp:tb.plain nx=true)(hr:∀r0,tb.to nx r0≠r):(H.over tb nx H0).get r q=H.get r q:=by
 unfold AH.get AH.over;rw[AH.look_append,AH.look_cutL,AH.look_renL_no _ _ hr]
 have:memN (tb.map (·.2.1)) r=false:=by
  cases hm:memN (tb.map (·.2.1)) r with
  | false=>rfl
  |
   true =>
   obtain⟨x,d,hx⟩:=Tab.at_of_old hp ((za1 _ _).1 hm);exact absurd (by unfold Tab.to;rw[hx]) (hr x)
 rw[this];simp only[cond_false]
 cases H.look r<;>rfl
theorem AH.over_lt(hok:tb.ok nx0 []=true)(hp:tb.plain nx=true)(hH:∀r o,H.look r=some o→r < nx){nx':Nat}(h0:∀r o,H0.look r=some o→r < nx')(r:Nat)(o:AObj)(h:(H.over tb nx H0).look r=some o):r < nx+nx':=by
 unfold AH.over at h;rw[AH.look_append,AH.look_cutL] at h
 cases hl:H.look r with
 | some o'=>have:=hH _ _ hl;omega
 |
  none =>
  rw[hl] at h
  have h2:(H0.renL (tb.to nx)).look r=some o:=by cases hm:memN (tb.map (·.2.1)) r<;>rw[hm] at h<;>exact h
  by_cases hx:∃r0,tb.to nx r0=r
  ·
   obtain⟨r0,rfl⟩:=hx;rw[AH.look_renL (fun x y h=>Tab.to_inj hok hp h)] at h2;obtain⟨o1,h3,_⟩:=We.1 h2;have:=h0 _ _ h3;unfold Tab.to
   cases hx:tb.at r0 with
   | none=>simp only;omega
   | some p=>have:=(Tab.plain_at hp (d:=p.2) hx).1;simp only;omega
  · rw[AH.look_renL_no _ _ (fun r0 e=>hx ⟨r0,e⟩)] at h2;cases h2
theorem zA6{H H2 HH:AH}{σ:Nat→Nat→Option (Nat × Nat × Nat)}{t:Bool}{a b:AV}(h:Vw H HH σ (inD []) t a b):Vw H2 HH σ (inD []) t a b:=by
 induction h with
 | undef=>exact .undef _ _
 | int=>exact .int _ _ _
 | bool=>exact .bool _ _
 | str=>exact .str _ _
 | nilp=>exact .nilp _
 | nilfn=>exact .nilfn _
 | cut=>exact .cut _
 | mp=>exact .mp _ _ _ _ ‹_›
 | nilmp=>exact .nilmp _
 | it=>exact .it _ _ ‹_›
 | nilsl=>exact .nilsl _
 | iptr=>exact .iptr _ _ _
 | sl=>exact .sl _ _ _ _
 | nil0=>exact .nil0 _ _ _
 | slf _ _ _ _ _ _ ih=>exact .slf _ _ _ _ _ ih
 | iptrf _ _ _ _ _ ih=>exact .iptrf _ _ _ _ ih
 | own=>exact .own _ _ _ _ _ _ _ _ _ ‹_› ‹_›
 | ptr=>exact .ptr _ _ _ _ _ _ _ _ _ ‹_› ‹_›
 | new=>exact .new _ _ _ ‹_› ‹_›
 | frz=>rename_i hD _ _ _ _ _;cases hD
 | frzp=>rename_i hD _ _ _ _ _;cases hD
 | fn _ _ _ _ hl _ ih=>exact .fn _ _ _ _ hl ih
 | agg _ _ _ hl _ ih=>exact .agg _ _ _ hl ih
 | tup _ _ _ hl _ ih=>exact .tup _ _ _ hl ih
end
section
variable {P:Program} {L:Nat→Prop} {H H0 H':AH} {nx nx0 nx':Nat} {tb:Tab}
def othr(ι:Inj)(H:AH)(tb:Tab)(nx b:Nat):Prop:=∃r q sz els g l,(∀r0,tb.to nx r0≠r)∧H.get r q=some (.row sz els g)∧ι r q g=some l∧0 < l.cap * l.sz∧l.block=b
def AH.keepL(l:List Nat):AH→AH
 | []=>[]
 | (r,o)::t=>bif memN l r then (r,o)::AH.keepL l t else AH.keepL l t
theorem AH.look_keepL(l:List Nat)(H:AH)(r:Nat):(H.keepL l).look r=bif memN l r then H.look r else none:=by
 induction H with
 | nil=>simp only[AH.keepL,AH.look];cases memN l r<;>rfl
 |
  cons p t ih =>
  obtain⟨j,o⟩:=p;simp only[AH.keepL]
  cases hm:memN l j with
  |
   true =>
   simp only[cond_true,AH.look,ih]
   cases hb:Wa j r with
   | true=>rw[←zF hb,hm];rfl
   | false=>rfl
  |
   false =>
   simp only[cond_false,ih,AH.look]
   cases hb:Wa j r with
   | true=>rw[←zF hb,hm];rfl
   | false=>rfl
theorem AH.get_keepL(l:List Nat)(H:AH)(r q:Nat):(H.keepL l).get r q=bif memN l r then H.get r q else none:=by
 unfold AH.get;rw[AH.look_keepL]
 cases memN l r<;>rfl
theorem zDY(hp:tb.plain nx=true){r:Nat}(hr:r < nx):memN (tb.map (·.2.1)) r=true↔∃r0,tb.to nx r0=r:=by
 constructor
 · intro h;obtain⟨x,d,hx⟩:=Tab.at_of_old hp ((za1 _ _).1 h);exact⟨x,by unfold Tab.to;rw[hx]⟩
 ·
  rintro⟨x,rfl⟩;unfold Tab.to at hr ⊢
  cases hx:tb.at x with
  | none=>rw[hx] at hr;simp only at hr;omega
  | some p=>exact(za1 _ _).2 (Tab.at_mem (d:=p.2) hx).2
open Classical in
noncomputable def zmE(ι ι':Inj)(tb:Tab)(nx:Nat):Inj:=fun r q g=>if h:∃r0,tb.to nx r0=r then ι' h.choose q g else ι r q g
theorem zDs(hok:tb.ok nx0 []=true)(hp:tb.plain nx=true)(ι ι':Inj)(r q g:Nat):zmE ι ι' tb nx (tb.to nx r) q g=ι' r q g:=by unfold zmE;have h:∃r0,tb.to nx r0=tb.to nx r:=⟨r,rfl⟩;rw[dif_pos h,Tab.to_inj hok hp h.choose_spec]
theorem zzJ(ι ι':Inj)(r q g:Nat)(hr:∀r0,tb.to nx r0≠r):zmE ι ι' tb nx r q g=ι r q g:=by unfold zmE;rw[dif_neg (fun⟨r0,h⟩=>hr r0 h)]
variable {w w':World} {ι:Inj}
theorem zgT(hp:tb.plain nx=true)(rel:RelH w L ι H nx)(b:Nat):live ι H b↔othr ι H tb nx b∨live ι (H.keepL (tb.map (·.2.1))) b:=by
 constructor
 ·
  rintro⟨r,q,sz,els,g,l,h1,h2,h3,rfl⟩;have hr:=rel.idx _ _ _ _ h2
  by_cases hx:∃r0,tb.to nx r0=r
  · refine .inr ⟨r,q,sz,els,g,l,?_,h2,h3,rfl⟩;rw[AH.get_keepL,(zDY hp hr).2 hx];exact h1
  · exact .inl ⟨r,q,sz,els,g,l,fun r0 e=>hx ⟨r0,e⟩,h1,h2,h3,rfl⟩
 ·
  rintro(⟨r,q,sz,els,g,l,_,h1,h2,h3,rfl⟩ | ⟨r,q,sz,els,g,l,h1,h2,h3,rfl⟩)
  · exact⟨r,q,sz,els,g,l,h1,h2,h3,rfl⟩
  ·
   rw[AH.get_keepL] at h1
   cases hm:memN (tb.map (·.2.1)) r with
   | false=>rw[hm] at h1;cases h1
   | true=>rw[hm] at h1;exact⟨r,q,sz,els,g,l,h1,h2,h3,rfl⟩
theorem RelH.keep(hp:tb.plain nx=true)(rel:RelH w L ι H nx):
  (∀b,Lt (fun b=>L b∨othr ι H tb nx b) ι (H.keepL (tb.map (·.2.1))) b↔Lt L ι H b)∧RelH w (fun b=>L b∨othr ι H tb nx b) ι (H.keepL (tb.map (·.2.1))) nx:=by
 have hlt:∀b,Lt (fun b=>L b∨othr ι H tb nx b) ι (H.keepL (tb.map (·.2.1))) b↔Lt L ι H b:=by intro b;simp only[Lt,zgT hp rel b,or_assoc]
 have hget:∀{r q o},(H.keepL (tb.map (·.2.1))).get r q=some o→H.get r q=some o∧memN (tb.map (·.2.1)) r=true:=by
  intro r q o h;rw[AH.get_keepL] at h
  cases hm:memN (tb.map (·.2.1)) r with
  | false=>rw[hm] at h;cases h
  | true=>rw[hm] at h;exact⟨h,rfl⟩
 refine⟨hlt,fun r q sz els g h=>?_,fun r1 q1 r2 q2 s1 e1 g1 l1 s2 e2 g2 l2 h1 h2=>rel.apart _ _ _ _ _ _ _ _ _ _ _ _ (hget h1).1 (hget h2).1,fun b hb hL=>?_,rel.idx,fun r o h=>?_,fun r q sz els g h=>rel.gen _ _ _ _ _ (hget h).1,fun b hb=>?_⟩
 ·
  have:Lt (fun b=>L b∨othr ι H tb nx b) ι (H.keepL (tb.map (·.2.1)))=Lt L ι H:=by funext b;exact propext (hlt b)
  rw[this];exact rel.row _ _ _ _ _ (hget h).1
 ·
  rcases hL with hL | ⟨r,q,sz,els,g,l,h1,h2,h3,h4,h5⟩
  · exact rel.out b ((zgT hp rel b).2 (.inr hb)) hL
  · obtain⟨r',q',sz',els',g',l',k1,k2,k3,k4⟩:=hb;obtain⟨k1,k5⟩:=hget k1;obtain⟨rfl,rfl⟩:=rel.apart _ _ _ _ _ _ _ _ _ _ _ _ h2 k1 h3 k2 h4 k3 (h5.trans k4.symm);obtain⟨r0,e⟩:=(zDY hp (rel.idx _ _ _ _ h3)).1 k5;exact h1 r0 e
 ·
  rw[AH.look_keepL] at h
  cases hm:memN (tb.map (·.2.1)) r with
  | false=>rw[hm] at h;cases h
  | true=>rw[hm] at h;exact rel.dom _ _ h
 ·
  rcases hb with hb|hb
  · exact rel.Lsz b hb
  · exact rel.live_lt ((zgT hp rel b).2 (.inl hb))
theorem Step.over (hok:tb.ok nx0 []=true) (hp:tb.plain nx=true) (rel:RelH w L ι H nx) {ι0 ι':Inj} (h0:∀r q g l,ι (tb.to nx r) q g=some l→tb.at r≠none→ι0 r q g=some l)
  (hl0:∀b,live ι0 H0 b→live ι (H.keepL (tb.map (·.2.1))) b) (st:Step w (fun b=>L b∨othr ι H tb nx b) ι0 H0 nx0 w' ι' H' nx') :
  Step w L ι H nx w' (zmE ι ι' tb nx) (H.over tb nx H') (nx+nx')∧∀v a,VR w' (Lt (fun b=>L b∨othr ι H tb nx b) ι' H') ι' v a→VR w' (Lt L (zmE ι ι' tb nx) (H.over tb nx H')) (zmE ι ι' tb nx) v (a.ren (tb.to nx)):=by
 have hin:=fun r q=>AH.over_in (H0:=H') hok hp rel.dom r q
 have hout:=fun r q hr=>AH.over_out (H:=H) (H0:=H') r q hp hr
 have iin:=zDs hok hp ι ι'
 have iout:=fun r q g hr=>zzJ (tb:=tb) (nx:=nx) ι ι' r q g hr
 have hlive:∀b,live (zmE ι ι' tb nx) (H.over tb nx H') b↔live ι' H' b∨othr ι H tb nx b:=by
  intro b;constructor
  ·
   rintro⟨r,q,sz,els,g,l,h1,h2,h3,rfl⟩
   by_cases hx:∃r0,tb.to nx r0=r
   ·
    obtain⟨r0,rfl⟩:=hx;rw[hin] at h1;rw[iin] at h2;obtain⟨o,h4,h5⟩:=We.1 h1
    cases o with
    | fam _ _=>cases h5
    | row sz0 els0 g0=>cases h5;exact .inl ⟨_,_,_,_,_,_,h4,h2,h3,rfl⟩
   ·
    have hr:∀r0,tb.to nx r0≠r:=fun r0 e=>hx ⟨r0,e⟩
    rw[hout r q hr] at h1;rw[iout r q g hr] at h2;exact .inr ⟨r,q,sz,els,g,l,hr,h1,h2,h3,rfl⟩
  ·
   rintro(⟨r,q,sz,els,g,l,h1,h2,h3,rfl⟩ | ⟨r,q,sz,els,g,l,hr,h1,h2,h3,rfl⟩)
   · exact⟨tb.to nx r,q,sz,_,g,l,by rw[hin,h1];rfl,by rw[iin];exact h2,h3,rfl⟩
   · exact⟨r,q,sz,els,g,l,by rw[hout r q hr];exact h1,by rw[iout r q g hr];exact h2,h3,rfl⟩
 have hLt:Lt L (zmE ι ι' tb nx) (H.over tb nx H')=Lt (fun b=>L b∨othr ι H tb nx b) ι' H':=by
  funext b
  apply propext;simp only[Lt,hlive];constructor
  ·
   rintro(h|h|h)
   · exact .inl (.inl h)
   · exact .inr h
   · exact .inl (.inr h)
  ·
   rintro((h|h)|h)
   · exact .inl h
   · exact .inr (.inr h)
   · exact .inr (.inl h)
 have hold0:∀b,live ι0 H0 b→live ι H b:=fun b hb=>(zgT hp rel b).2 (.inr (hl0 b hb))
 have hsame:∀b,b < w.heap.size→¬live ι0 H0 b→w'.heap[b]? = w.heap[b]? := st.ext.block
 have inj:∀r q g l,ι r q g=some l→zmE ι ι' tb nx r q g=some l:=by
  intro r q g l h
  by_cases hx:∃r0,tb.to nx r0=r
  · obtain⟨r0,rfl⟩:=hx;rw[iin];refine st.inj _ _ _ _ (h0 _ _ _ _ h fun hn=>?_);have:=rel.idx _ _ _ _ h;unfold Tab.to at this;rw[hn] at this;simp only at this;omega
  · rw[iout r q g (fun r0 e=>hx ⟨r0,e⟩)];exact h
 have hnew:∀{v a},VR w' (Lt (fun b=>L b∨othr ι H tb nx b) ι' H') ι' v a→VR w' (Lt L (zmE ι ι' tb nx) (H.over tb nx H')) (zmE ι ι' tb nx) v (a.ren (tb.to nx)):=by intro v a h;rw[hLt];exact h.ren (fun r q g l h=>by rw[iin];exact h)
 have hold:∀{v a},VR w (Lt L ι H) ι v a→VR w' (Lt L (zmE ι ι' tb nx) (H.over tb nx H')) (zmE ι ι' tb nx) v a:=by
  intro v a h;refine h.mono (fun b hb hn=>⟨hsame b hb fun h'=>hn (.inr (hold0 b h')),fun h'=>?_⟩) inj;rw[hLt] at h'
  rcases h' with (h' | h')|h'
  · exact hn (.inl h')
  · exact hn (.inr ((zgT hp rel b).2 (.inl h')))
  ·
   rcases st.lv b h' with h' | h'
   · exact hn (.inr (hold0 b h'))
   · omega
 have oth_no:∀b,othr ι H tb nx b→¬live ι0 H0 b:=fun b h1 h2=>(rel.keep hp).2.out b (hl0 b h2) (.inr h1)
 have lv:∀b,live (zmE ι ι' tb nx) (H.over tb nx H') b→live ι H b∨w.heap.size≤b:=by
  intro b hb
  rcases(hlive b).1 hb with hb|hb
  ·
   rcases st.lv b hb with hb|hb
   · exact .inl (hold0 b hb)
   · exact .inr hb
  · exact .inl ((zgT hp rel b).2 (.inl hb))
 refine⟨⟨⟨st.ext.os,st.ext.tape,st.ext.output,st.ext.size,fun b hb hn=>hsame b hb fun h=>hn (hold0 b h)⟩,inj,?_,lv⟩,fun v a h=>hnew h⟩;constructor
 ·
  intro r q sz els g h
  by_cases hx:∃r0,tb.to nx r0=r
  ·
   obtain⟨r0,rfl⟩:=hx;rw[hin] at h;obtain⟨o,h4,h5⟩:=We.1 h
   cases o with
   | fam _ _=>cases h5
   |
    row sz0 els0 g0 =>
    cases h5;obtain⟨l,h1,ok⟩:=st.rel.row _ _ _ _ _ h4;refine⟨l,by rw[iin];exact h1,ok.view (fun _=>rfl) (by simp) (fun i c hi=>?_)⟩;rw[Wh] at hi;obtain⟨c0,h2,rfl⟩:=We.1 hi;refine⟨c0,h2,by simp,fun j a a' hj hj' v hv=>?_⟩;rw[Wh,hj] at hj';cases hj';exact hnew hv
  ·
   have hr:∀r0,tb.to nx r0≠r:=fun r0 e=>hx ⟨r0,e⟩
   rw[hout r q hr] at h;obtain⟨l,h1,ok⟩:=rel.row _ _ _ _ _ h;exact⟨l,by rw[iout r q g hr];exact h1,ok.trans (fun hp=>hsame _ (ok.blk_lt hp) (oth_no _ ⟨r,q,sz,els,g,l,hr,h,h1,hp,rfl⟩)) (fun v a hv=>hold hv)⟩
 ·
  intro r1 q1 r2 q2 s1 e1 g1 l1 s2 e2 g2 l2 h1 h2 h3 h4 h5 h6 h7
  have key:∀r q s e g l,(H.over tb nx H').get r q=some (.row s e g)→zmE ι ι' tb nx r q g=some l→0 < l.cap * l.sz →
    (∃r0 e0,tb.to nx r0=r∧H'.get r0 q=some (.row s e0 g)∧ι' r0 q g=some l)∨((∀r0,tb.to nx r0≠r)∧H.get r q=some (.row s e g)∧ι r q g=some l):=by
   intro r q s e g l a1 a2 a3
   by_cases hx:∃r0,tb.to nx r0=r
   ·
    obtain⟨r0,rfl⟩:=hx;rw[hin] at a1;rw[iin] at a2;obtain⟨o,a4,a5⟩:=We.1 a1
    cases o with
    | fam _ _=>cases a5
    | row sz0 els0 g0=>cases a5;exact .inl ⟨r0,_,rfl,a4,a2⟩
   ·
    have hr:∀r0,tb.to nx r0≠r:=fun r0 e=>hx ⟨r0,e⟩
    rw[hout r q hr] at a1;rw[iout r q g hr] at a2;exact .inr ⟨hr,a1,a2⟩
  have cross:∀{r q s e g l r' q' s' e' g' l'},H'.get r q=some (.row s e g)→ι' r q g=some l→0 < l.cap * l.sz→(∀r0,tb.to nx r0≠r')→H.get r' q'=some (.row s' e' g')→ι r' q' g'=some l'→0 < l'.cap * l'.sz→l.block=l'.block→False:=by intro r q s e g l r' q' s' e' g' l' a1 a2 a3 b0 b1 b2 b3 b4;exact st.rel.out l.block ⟨_,_,_,_,_,_,a1,a2,a3,rfl⟩ (.inr ⟨_,_,_,_,_,_,b0,b1,b2,b3,b4.symm⟩)
  rcases key _ _ _ _ _ _ h1 h3 h5 with ⟨x,ex,rfl,a1,a2⟩ | ⟨a0,a1,a2⟩
  ·
   rcases key _ _ _ _ _ _ h2 h4 h6 with ⟨y,ey,rfl,b1,b2⟩ | ⟨b0,b1,b2⟩
   · obtain⟨rfl,rfl⟩:=st.rel.apart _ _ _ _ _ _ _ _ _ _ _ _ a1 b1 a2 b2 h5 h6 h7;exact⟨rfl,rfl⟩
   · exact(cross a1 a2 h5 b0 b1 b2 h6 h7).elim
  ·
   rcases key _ _ _ _ _ _ h2 h4 h6 with ⟨y,ey,rfl,b1,b2⟩ | ⟨b0,b1,b2⟩
   · exact(cross b1 b2 h6 a0 a1 a2 h5 h7.symm).elim
   · exact rel.apart _ _ _ _ _ _ _ _ _ _ _ _ a1 b1 a2 b2 h5 h6 h7
 ·
  intro b hb hL
  rcases(hlive b).1 hb with hb|hb
  · exact st.rel.out b hb (.inl hL)
  · exact rel.out b ((zgT hp rel b).2 (.inl hb)) hL
 ·
  intro r q g l h
  by_cases hx:∃r0,tb.to nx r0=r
  ·
   obtain⟨r0,rfl⟩:=hx;rw[iin] at h;have:=st.rel.idx _ _ _ _ h;unfold Tab.to
   cases hx:tb.at r0 with
   | none=>simp only;omega
   | some p=>have:=(Tab.plain_at hp (d:=p.2) hx).1;simp only;omega
  · rw[iout r q g (fun r0 e=>hx ⟨r0,e⟩)] at h;have:=rel.idx _ _ _ _ h;omega
 · exact fun r o h=>AH.over_lt hok hp rel.dom st.rel.dom r o h
 ·
  intro r q sz els g h g2 l h2
  by_cases hx:∃r0,tb.to nx r0=r
  ·
   obtain⟨r0,rfl⟩:=hx;rw[hin] at h;rw[iin] at h2;obtain⟨o,h4,h5⟩:=We.1 h
   cases o with
   | fam _ _=>cases h5
   | row sz0 els0 g0=>cases h5;exact st.rel.gen _ _ _ _ _ h4 _ _ h2
  ·
   have hr:∀r0,tb.to nx r0≠r:=fun r0 e=>hx ⟨r0,e⟩
   rw[hout r q hr] at h;rw[iout r q g2 hr] at h2;exact rel.gen _ _ _ _ _ h _ _ h2
 · intro b hb;exact Nat.lt_of_lt_of_le (rel.Lsz b hb) st.ext.size
theorem zx {f:FuncId} {asv bs:List AV} {Post k:AV→AH→Nat→Prop} (tb:Tab) (nx0:Nat) (H0:AH) (h:zU P f bs H0 nx0 Post) (hok:tb.ok nx0 []=true) (hp:tb.plain nx=true)
  (hr:zly H H0 tb [] nx0 H0) (ha:VwL H H0 tb.sig (inD []) true asv bs) (hk:∀v H' nx',Post v H' nx'→k (v.ren (tb.to nx)) (H.over tb nx H') (nx+nx')):zU P f asv H nx k:=by
 intro w L ι vs rel hv;obtain⟨hlt,relS⟩:=rel.keep hp (L:=L)
 have hltE:Lt (fun b=>L b∨othr ι H tb nx b) ι (H.keepL (tb.map (·.2.1)))=Lt L ι H:=by funext b;exact propext (hlt b)
 have hsig:∀{r' q' r q d},tb.sig r' q'=some (r,q,d)→tb.at r'=some (r,d)∧q=q'∧d=0:=by
  intro r' q' r q d h;unfold Tab.sig at h
  cases e1:tb.at r' with
  | none=>rw[e1] at h;cases h
  |
   some p1 =>
   rw[e1] at h;simp only[Wg,Wn] at h;obtain⟨rfl,rfl,rfl⟩:=h;exact⟨rfl,rfl,(Tab.plain_at hp (d:=p1.2) e1).2⟩
 have vw:View 0 (H.keepL (tb.map (·.2.1))) H0 nx0 tb.sig (inD []):=by
  refine⟨Wr _,fun r q h=>absurd h (Wu _),?_,fun _ _ _ _ _ _ h=>(by cases h),?_,zoo hr,fun r' q' sz els2 g2 h2=>?_⟩
  · intro r1 q1 r2 q2 r q d1 d2 h1 h2;obtain⟨a1,a2,_⟩:=hsig h1;obtain⟨b1,b2,_⟩:=hsig h2;exact⟨Tab.ok_inj hok a1 b1,by rw[←a2,←b2]⟩
  ·
   intro r' q' x h;unfold Tab.sig at h
   cases e1:tb.at r' with
   | none=>rw[e1] at h;cases h
   | some p1=>exact(Tab.ok_at hok (d:=p1.2) e1).1
  ·
   rcases zob hr r' q' sz els2 g2 h2 with ⟨r,q,d,els,a1,a2,a3⟩|h3
   ·
    refine .inl ⟨r,q,d,els,a1,?_,a3.1,fun i c2 hi=>?_⟩
    · rw[AH.get_keepL,(za1 _ _).2 (Tab.at_mem (d:=d) (hsig a1).1).2];exact a2
    · obtain⟨c,hc,hl,hv⟩:=a3.2 i c2 hi;exact⟨c,hc,hl,fun j a b ha hb=>zA6 (hv j a b ha hb)⟩
   · exact .inr h3
 have args:∀{asv bs:List AV}{us:List Value},VwL H H0 tb.sig (inD []) true asv bs→VRs w (Lt L ι H) ι us asv→VRs w (Lt (fun b=>L b∨othr ι H tb nx b) (zfX H0 tb.sig ι) H0) (zfX H0 tb.sig ι) us bs:=by
  intro asv bs us h hv
  induction hv generalizing bs with
  |
   nil =>
   cases bs with
   | nil=>exact .nil
   | cons b bs=>exact h.elim
  |
   cons h1 _ ih =>
   cases bs with
   | nil=>exact h.elim
   |
    cons b bs =>
    refine .cons ?_ (ih h.2);rw[←hltE] at h1;exact vw.vr relS (zA6 h.1) h1
 refine(h w _ _ vs (vw.rel relS) (args ha hv)).mono fun e w' ⟨v,ι',H',nx',a,h3,h4,_,h6,h7⟩=>?_
 have hi:∀r q g l,ι (tb.to nx r) q g=some l→tb.at r≠none→zfX H0 tb.sig ι r q g=some l:=by
  intro r q g l h hn;unfold zfX Tab.sig;unfold Tab.to at h
  cases e1:tb.at r with
  | none=>exact absurd e1 hn
  |
   some p =>
   rw[e1] at h;have:=(Tab.plain_at hp (d:=p.2) e1).2;simp only[this];exact h
 obtain⟨h8,h9⟩:=Step.over hok hp rel hi (fun b hb=>vw.lv hb) h4;exact⟨v,_,_,_,_,h3,h8,Nat.le_add_right _ _,h9 v a h6,hk _ _ _ h7⟩
end
theorem znS{ρ:Nat→Nat}{a:AV}(h:a.flat0=true):a.ren ρ=a:=by
 cases a<;>first | (cases h;done)|simp[AV.ren]
theorem zkQ{ρ:Nat→Nat}:∀{l:List AV},zH l=true→l.map (AV.ren ρ)=l
 | [],_=>rfl
 |
  a::l,h=>by
  simp only[zH,Wf] at h;rw[Wm,znS h.1,zkQ h.2]
theorem zh2{ρ:Nat→Nat}{els:List (List AV)}(h:zr els):els.map (fun c=>c.map (AV.ren ρ))=els:=by
 conv=>rhs;rw[←List.map_id els]
 exact List.map_congr_left fun c hc=>zkQ (h c hc)
theorem to_nil{nx r:Nat}:Tab.to [] nx r=nx+r:=rfl
theorem zFd{a b d nx r:Nat}{tb:Tab}:Tab.to ((a,b,d)::tb) nx r=bif a == r then b else Tab.to tb nx r:=by
 unfold Tab.to;rw[zBE]
 cases a == r<;>rfl
theorem evZ :
 (∀{nx r:Nat},Tab.to [] nx r=nx+r)∧(∀{a b d nx r:Nat}{tb:Tab},Tab.to ((a,b,d)::tb) nx r=bif a == r then b else Tab.to tb nx r) ∧
 (∀{H H0:AH}{tb:Tab}{nx:Nat},H.over tb nx H0=H.cutL (tb.map (·.2.1))++H0.renL (tb.to nx)) ∧
 (∀{l:List Nat},AH.cutL l []=[])∧(∀{l:List Nat}{r:Nat}{o:AObj}{t:AH},AH.cutL l ((r,o)::t)=bif memN l r then AH.cutL l t else (r,o)::AH.cutL l t) ∧
 (∀{ρ:Nat→Nat},AH.renL ρ []=[])∧(∀{ρ:Nat→Nat}{r:Nat}{o:AObj}{t:AH},AH.renL ρ ((r,o)::t)=(ρ r,o.ren ρ)::AH.renL ρ t) ∧
 (∀ {ρ:Nat→Nat} {sz g:Nat} {els:List (List AV)},zr els→AObj.ren ρ (.row sz els g)=.row sz els g) ∧
 (∀{ρ:Nat→Nat}{sz g:Nat}{c:List AV},AObj.ren ρ (.row sz [c] g)=.row sz [c.map (AV.ren ρ)] g) ∧
 (∀{ρ:Nat→Nat}{a:AV},a.flat0=true→AV.ren ρ a=a) ∧
 (∀{ρ:Nat→Nat}{r q g o n:Nat},AV.ren ρ (.own r q g o n)=.own (ρ r) q g o n)∧(∀{ρ:Nat→Nat}{r q g o n:Nat},AV.ren ρ (.ptr r q g o n)=.ptr (ρ r) q g o n) ∧
 (∀{ρ:Nat→Nat}{l:List AV},AV.ren ρ (.agg l)=.agg (l.map (AV.ren ρ)))∧(∀{ρ:Nat→Nat}{l:List AV},AV.ren ρ (.tup l)=.tup (l.map (AV.ren ρ))) ∧
 (∀{ρ:Nat→Nat}{f:Fn}{l:List AV},AV.ren ρ (.fn f l)=.fn f (l.map (AV.ren ρ))) ∧
 (∀{α β:Type}{f:α→β},List.map f []=[])∧(∀{α β:Type}{f:α→β}{a:α}{l:List α},List.map f (a::l)=f a::List.map f l) ∧
 (zr []=True)∧(∀ {c:List AV} {l:List (List AV)},zr (c::l)=(zH c=true∧zr l))∧(∀ {l m:List (List AV)},zr (l++m)=(zr l∧zr m)) ∧
 (∀{α:Type}{f:α→List AV}{l:List α},zr (l.map f)=∀a∈l,zH (f a)=true)∧(∀{n:Nat}{c:List AV},zH c=true→zr (Wc n c)=True) ∧
 (∀ {l:List (List AV)} {i:Nat} {c:List AV},zH c=true→zr l→zr (l.set i c)=True):=by
 refine⟨to_nil,zFd,rfl,rfl,rfl,rfl,rfl,fun h=>?_,rfl,znS,?_,?_,?_,?_,?_,rfl,rfl,zju,zh4,ziw,zlL,zl0,zlB⟩
 · simp only[AObj.ren];exact congrArg (fun e=>AObj.row _ e _) (zh2 h)
 all_goals (intros;simp[AV.ren])
theorem evF :
 (zr []=True)∧(∀ {c:List AV} {l:List (List AV)},zr (c::l)=(zH c=true∧zr l))∧(∀ {l m:List (List AV)},zr (l++m)=(zr l∧zr m)) ∧
 (∀{α:Type}{f:α→List AV}{l:List α},zr (l.map f)=∀a∈l,zH (f a)=true)∧(∀{n:Nat}{c:List AV},zH c=true→zr (Wc n c)=True) ∧
 (∀ {l:List (List AV)} {i:Nat} {c:List AV},zH c=true→zr l→zr (l.set i c)=True) :=
 ⟨zju,zh4,ziw,zlL,zl0,zlB⟩
def Tab.idB(t:Tab):Nat→Bool
 | 0=>true
 |
  B+1=>(match t.at B with
  | some (r,d)=>Wa r B&&Wa d 0
  | none=>false)&&Tab.idB t B
theorem Tab.idB_at{t:Tab}:∀{B:Nat},t.idB B=true→∀r,r < B→t.at r=some (r,0)
 | 0,_,r,h=>absurd h (Wu _)
 |
  B+1,hb,r,h=>by
  simp only[Tab.idB,Wf] at hb
  by_cases e:r=B
  ·
   subst e
   cases hx:t.at r with
   | none=>rw[hx] at hb;simp at hb
   |
    some p =>
    obtain⟨a,d⟩:=p;rw[hx] at hb;simp only[Wf] at hb;rw[zF hb.1.1,zF hb.1.2]
  · exact Tab.idB_at hb.2 r (by omega)
theorem Ent.tabB{B:Nat}{K K2:Kn}{H H2:AH}{nx nx2:Nat}(t:Tab)(ds:List Nat)(hB:Nat.ble B nx2=true)(hid:t.idB B=true)(hok:t.ok nx2 ds=true)(hr:zly H H2 t ds nx2 H2)(hK:zpd H H2 t ds K2 K):Ent B K H nx K2 H2 nx2:=by
 refine Ent.view t.sig (inD ds) ⟨Ws hB,fun r q h=>?_,?_,?_,?_,zoo hr,zob hr⟩ (zo2 hK)
 · unfold Tab.sig;rw[Tab.idB_at hid r h]
 ·
  intro r1 q1 r2 q2 r q d1 d2 h1 h2;unfold Tab.sig at h1 h2
  cases e1:t.at r1 with
  | none=>rw[e1] at h1;cases h1
  |
   some p1 =>
   cases e2:t.at r2 with
   | none=>rw[e2] at h2;cases h2
   |
    some p2 =>
    rw[e1] at h1;rw[e2] at h2;simp only[Wg,Wn] at h1 h2;obtain⟨rfl,rfl,rfl⟩:=h1;obtain⟨h3,rfl,rfl⟩:=h2;refine⟨Tab.ok_inj hok (d:=p1.2) (e:=p2.2) e1 ?_,rfl⟩;rw[e2,←h3]
 ·
  intro r' q' r q d h;unfold Tab.sig at h
  cases e1:t.at r' with
  | none=>rw[e1] at h;cases h
  |
   some p1 =>
   rw[e1] at h;simp only[Wg,Wn] at h;obtain⟨rfl,_,rfl⟩:=h;have:=(Tab.ok_at hok (d:=p1.2) e1).2.1;unfold inD;rw[this];exact Wp
 ·
  intro r' q' x h;unfold Tab.sig at h
  cases e1:t.at r' with
  | none=>rw[e1] at h;cases h
  | some p1=>exact(Tab.ok_at hok (d:=p1.2) e1).1
def zD6(B:Nat)(Q:AV→AH→Nat→Prop)(v:AV)(H:AH)(nx:Nat):Prop:=∃v2 H2 nx2,Ent B [(0,v)] H nx [(0,v2)] H2 nx2∧Q v2 H2 nx2
theorem zR{P:Program}{f:FuncId}{args:List AV}{H:AH}{nx:Nat}{Q:AV→AH→Nat→Prop}(h:zU P f args H nx (zD6 nx Q)):zU P f args H nx Q:=by
 intro w L ι vs rel hv
 refine(h w L ι vs rel hv).mono fun e w' ⟨v,ι',H',nx',a,h1,st,h3,h4,v2,H2,nx2,⟨h5,h6⟩,h7⟩=>?_
 obtain⟨ι2,r1,r2,r3,r4⟩:=h6 w' L ι' #[v] st.rel (fun i=>by
  cases i with
  | zero=>exact h4
  | succ i=>exact .undef _ _)
 exact⟨v,ι2,H2,nx2,v2,h1,⟨st.ext,fun r q g l hl=>r4 r q g l (rel.idx _ _ _ _ hl) (st.inj _ _ _ _ hl),r1,fun b hb=>st.lv b (r3 b hb)⟩,h5,r2 0,h7⟩
section
variable {α:Type} {c:α→List AV} {sz:Nat}
def fe(F n:Nat)(ll:Nat→List α)(gs:Nat→Nat):List (List AV):=(Wi n).map fun i=>[.own F (i+1) (gs i) 0 (ll i).length]
def fi(c:α→List AV)(n:Nat)(ll:Nat→List α)(gs:Nat→Nat):List (List (List AV) × Nat):=(Wi n).map fun i=>((ll i).map c,gs i)
def updF{β:Type}(f:Nat→β)(k:Nat)(v:β):Nat→β:=fun i=>if i=k then v else f i
theorem zDU{F n:Nat}{ll:Nat→List α}{gs:Nat→Nat}:(fe F n ll gs).length=n:=by simp[fe]
theorem zm9{n k:Nat}{ll:Nat→List α}{gs:Nat→Nat}(h:k < n):(fi c n ll gs)[k]? = some ((ll k).map c,gs k):=by simp[fi,h]
theorem zia{β:Type}{f:Nat→β}{n k:Nat}{v:β}:((Wi n).map f).set k v=(Wi n).map (updF f k v):=by
 apply Wy;intro i;rw[List.getElem?_set]
 by_cases hk:k=i
 ·
  subst hk
  by_cases hn:k < n
  · simp[hn,updF]
  · simp[hn]
 ·
  rw[if_neg hk];simp only[Wh]
  by_cases hn:i < n
  · simp[hn,updF,Ne.symm hk]
  · simp[hn]
theorem zqN{n k:Nat}{ll:Nat→List α}{gs:Nat→Nat}:(fi c n ll gs)[k]? = if k < n then some ((ll k).map c,gs k) else none:=by
 split
 · exact zm9 ‹_›
 · simp[fi];omega
variable {H HH:AH} {σ:Nat→Nat→Option (Nat × Nat × Nat)} {D:Nat→Nat→Prop} {t:Bool}
theorem zsP{F F' n:Nat}{ll:Nat→List α}{gs:Nat→Nat}(h:∀i,σ F' (i+1)=some (F,i+1,0)):RowV H HH σ D (fe F n ll gs) (fe F' n ll gs):=by
 refine⟨by simp[zDU],fun i c2 hi=>?_⟩;unfold fe at hi ⊢;simp only[Wh,We] at hi ⊢;obtain⟨k,hk,rfl⟩:=hi;refine⟨_,⟨k,hk,rfl⟩,rfl,fun j x y h1 h2=>?_⟩
 cases j with
 | succ j=>cases h1
 |
  zero =>
  cases h1;cases h2;exact .own _ _ _ 0 _ _ _ _ _ (h k) rfl
theorem zvk{F' n:Nat}(h:∀i,σ F' (i+1)=none)(hg:∀i,i < n→∃sz,HH.get F' (i+1)=some (.row sz [] 0)):RowV H HH σ D (Wc n [.nilsl]) (fe (α:=α) F' n (fun _=>[]) (fun _=>0)):=by
 refine⟨by simp[zDU],fun i c2 hi=>?_⟩;unfold fe at hi;simp only[Wh,We] at hi;obtain⟨k,hk,rfl⟩:=hi;obtain⟨hkl,rfl⟩:=WC.1 hk;simp at hkl;refine⟨[.nilsl],by simp[hkl],rfl,fun j x y h1 h2=>?_⟩
 cases j with
 | succ j=>cases h1
 |
  zero =>
  cases h1;cases h2;simp only[List.getElem_range,List.length_nil];obtain⟨s,hs⟩:=hg i hkl;exact .new _ _ s (h i) hs
theorem zzm{F n:Nat}{ll:Nat→List α}{gs:Nat→Nat}(h:HH.look F=some (.fam sz (fi c n ll gs))){i:Nat}(hi:i < n):HH.get F (i+1)=some (.row sz ((ll i).map c) (gs i)):=by unfold AH.get;rw[h];simp only[Wx,AObj.part,zm9 hi,Option.map_some]
theorem znZ{F' n:Nat}(h:∀i,σ F' (i+1)=none)(hF:HH.look F'=some (.fam sz (fi c n (fun _=>[]) (fun _=>0)))):RowV H HH σ D (Wc n [.nilsl]) (fe (α:=α) F' n (fun _=>[]) (fun _=>0)) :=
 zvk h (fun i hi=>⟨sz,zzm hF hi⟩)
def famIs(sz:Nat)(c:α→List AV)(n:Nat)(ll:Nat→List α)(gs:Nat→Nat)(d:Nat)(o:Option AObj):Prop:=o=some (.fam sz (fi c n ll gs))∧d=0
def famAt(H:AH)(sz:Nat)(c:α→List AV)(n:Nat)(ll:Nat→List α)(gs:Nat→Nat):Option (Nat × Nat)→Prop
 | some (r,d)=>famIs sz c n ll gs d (H.look r)
 | none=>∀i,i < n→ll i=[]∧gs i=0
theorem zdK{tb:Tab}{ds:List Nat}{n r' m:Nat}{ll:Nat→List α}{gs:Nat→Nat}{u:AH}(hc:∀a,zH (c a)=true)(h1:r' < n)(h2:famAt H sz c m ll gs (tb.at r'))(h3:zly H HH tb ds n u):
  zly H HH tb ds n ((r',.fam sz (fi c m ll gs))::u):=by
 refine⟨by simpa [Wl] using h1,?_,h3⟩
 cases hx:tb.at r' with
 |
  none =>
  rw[hx] at h2;intro i p hp;rw[zqN] at hp;split at hp
  · rename_i hi;cases hp;obtain⟨e1,e2⟩:=h2 i hi;rw[e1,e2];rfl
  · cases hp
 |
  some p =>
  obtain⟨r,d⟩:=p;rw[hx] at h2;obtain⟨h4,rfl⟩:=h2;intro i p hp;rw[zqN] at hp;split at hp
  · rename_i hi;cases hp;exact⟨_,zzm h4 hi,zkn (by intro x hx;obtain⟨a,_,rfl⟩:=List.mem_map.1 hx;exact hc a)⟩
  · cases hp
end
section
variable {HH:Type} {enc:TypeId × Value→HH} {P:Program} {w:World} {base:Nat} {spare:Nat→Bool} {held:Bool} {L:Nat→Prop}
theorem ztZ{α β:Type}{f:α→Option β}:∀{l:List α}{r:List β},l.mapM f=some r→r.length=l.length∧∀(i:Nat)(a:α),l[i]? = some a→∃b,r[i]? = some b∧f a=some b
 |
  [],r,h=>by
  simp only[List.mapM_nil,Option.pure_def,Wg] at h;subst h;exact⟨rfl,fun i a h=>by simp at h⟩
 |
  x::l,r,h=>by
  simp only[List.mapM_cons,Option.bind_eq_bind,WD,Option.pure_def,Wg] at h;obtain⟨b,h1,bs,h2,rfl⟩:=h;obtain⟨h3,h4⟩:=ztZ h2;refine⟨by simp[h3],fun i a hi=>?_⟩
  cases i with
  | zero=>cases hi;exact⟨b,rfl,h1⟩
  | succ i=>exact h4 i a hi
theorem zz0{a:Addr}{n:Nat}{cs:List Value}(h:w.cells? base a n=some cs):cs.length=n∧∀j,j < n→w.cell? (a.add j)=some (cs.getD j undef):=by
 unfold World.cells? at h;split at h
 · obtain⟨h1,h2⟩:=ztZ h;refine⟨by simpa using h1,fun j hj=>?_⟩;obtain⟨b,h3,h4⟩:=h2 j j (by simp[hj]);rw[h4,Wv,h3];rfl
 · cases h
def ElOk(w:World)(L:Nat→Prop)(vs:List Value)(asv:List AV):Prop:=∀j,j < vs.length→VR w L noI (vs.getD j undef) (asv.getD j .undef)∧(vs.getD j undef).oneCell'=true
theorem zB1 {α:Type} {cells:α→List AV} {t e:TypeId} {sz:Nat} (ht:P.underlying t=some (.slice e)) (hs:P.cellsOf e=sz) (hL:∀b,¬L b)
  (hel:∀fuel cs y,DataW.trod enc P w base spare held fuel e cs=some y→cs.length=sz→∃x:α,ElOk w L cs (cells x)) {fuel:Nat} {cs:List Value} {y:DataW HH × List MemPlace}
  (h:DataW.trod enc P w base spare held fuel t cs=some y):∃(l:List α) (v:Value),cs=[v]∧v.oneCell'=true∧∀ι,VR w L ι v (encL sz cells l):=by
 rcases DataW.trod_slice ht h with ⟨rfl,rfl⟩ | ⟨a,len,cap,elems,rest,n,rfl,rfl,rfl,hb,hl,hc,he,hi,_,_⟩
 · exact⟨[],_,rfl,rfl,fun ι=>.sl0 _ _ _⟩
 ·
  rw[hs] at hi
  have key:∀i:Fin len,∃p:α × List Value,p.2.length=sz∧(∀j,j < sz→w.cell? ((a.add (i.1 * sz)).add j)=some (p.2.getD j undef))∧ElOk w L p.2 (cells p.1):=by intro i;have h1:=hi i.1 i.2;rw[Wd (by omega),WD] at h1;obtain⟨cs',h2,h3⟩:=h1;obtain⟨h4,h5⟩:=zz0 h2;obtain⟨x,hx⟩:=hel _ _ _ h3 h4;exact⟨(x,cs'),h4,h5,hx⟩
  obtain⟨F,hF⟩:=Classical.axiomOfChoice key;refine⟨List.ofFn fun i=>(F i).1,_,rfl,rfl,fun ι=>?_⟩;have hlen:(List.ofFn fun i=>(F i).1).length=len:=List.length_ofFn;unfold encL;rw[hlen];refine .sl ι a sz len cap _ (fun i j=>if hi:i < len then (F ⟨i,hi⟩).2.getD j undef else undef) hl (by unfold maxLen at hc;unfold big;omega) (fun i j hi hj=>?_) (fun _=>hL _) (fun i j hi hj=>?_)
  · obtain⟨h1,h2,h3⟩:=hF ⟨i,hi⟩;rw[dif_pos hi];exact⟨h2 j hj,(h3 j (by omega)).2⟩
  ·
   obtain⟨h1,h2,h3⟩:=hF ⟨i,hi⟩;rw[dif_pos hi]
   have e:((List.ofFn fun i=>(F i).1).map cells).getD i []=cells (F ⟨i,hi⟩).1:=by rw[zjr (a:=(F ⟨i,hi⟩).1)];rw[Wd (by rw[hlen];exact hi),List.getElem_ofFn]
   rw[e];exact(h3 j (by omega)).1
theorem inR_wf{k:IntKind}{n:Int}(h:(Lit.int k n).wf=true):InR k n:=by
 unfold Lit.wf at h
 simpa [InR] using h
theorem el_int{k:IntKind}{t:TypeId}(ht:P.underlying t=some (.int k)){fuel:Nat}{cs:List Value}{y:DataW HH × List MemPlace}(h:DataW.trod enc P w base spare held fuel t cs=some y):
  ∃n:Int,cs=[.int k n]∧InR k n:=by
 obtain⟨n,rfl,_,hw⟩:=DataW.trod_int ht h;exact⟨n,rfl,inR_wf hw⟩
theorem zwm {k:IntKind} {t e:TypeId} (ht:P.underlying t=some (.slice e)) (he:P.underlying e=some (.int k)) (hs:P.cellsOf e=1) (hL:∀b,¬L b) {fuel:Nat} {cs:List Value} {y:DataW HH × List MemPlace}
  (h:DataW.trod enc P w base spare held fuel t cs=some y):∃(l:List Int) (v:Value),cs=[v]∧v.oneCell'=true∧(∀ι,VR w L ι v (encL 1 (fun n=>[.int k n]) l)):=by
 refine zB1 ht hs hL (fun fuel cs y h hl=>?_) h;obtain⟨n,rfl,hn⟩:=el_int he h;refine⟨n,fun j hj=>?_⟩
 obtain rfl:j=0:=by simpa using hj
 exact⟨.int _ _ _ hn,rfl⟩
end
theorem zn{α β:Type}{f:α→β}{l:List α}{i:Nat}{d:β}(h:i < l.length):(l.map f).getD i d=f l[i]:=zjr (Wd h)
theorem zfh{α:Type}{p:α→Bool}{l:List α}{i:Nat}(h:i < l.length):(l.take (i+1)).filter p=(l.take i).filter p++if p l[i] then [l[i]] else []:=by
 rw[WE,Wd h,List.filter_append]
 cases hp:p l[i]<;>simp[hp]
theorem zl1{α β:Type}{f:β→α→β}{b:β}{l:List α}{i:Nat}(h:i < l.length):(l.take (i+1)).foldl f b=f ((l.take i).foldl f b) l[i]:=by rw[WE,Wd h,List.foldl_append];rfl
theorem zvc{α:Type}{p:α→Bool}{l:List α}{i:Nat}(h:i < l.length)(hp:p l[i]=true):l.any p=true:=List.any_eq_true.2 ⟨_,Ww h,hp⟩
theorem zBB{sz s:Nat}{α:Type}{f:α→List AV}{l:List α}{k:IntKind}{b:Int}{H:AH}{nx:Nat}:zhR s (encL sz f l) none (some (.int k b)) H nx=⟨sz=s∧(0:Int)≤0∧0≤b∧b≤l.length,True,.sl s (b - 0).toNat (fun i j=>((l.map f).getD ((0:Int).toNat+i) []).getD j .undef),H,nx⟩:=rfl
theorem dF{p:Prop}(h:¬p){inst:Decidable p}:@decide p inst=false:=decide_eq_false h
theorem dT{p:Prop}(h:p){inst:Decidable p}:@decide p inst=true:=decide_eq_true h
end Go.Ab
