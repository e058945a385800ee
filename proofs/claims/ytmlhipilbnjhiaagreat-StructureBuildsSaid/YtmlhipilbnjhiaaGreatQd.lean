/-
  Part 4 of the proof: how the calls of this program run, over values instead of memory, and what each function computes.
-/
import Derived.IntWalk
import Derived.ProofKit
import Derived.Test.YtmlhipilbnjhiaaGreatQc
set_option maxRecDepth 100000
set_option linter.unusedVariables false
set_option linter.unusedSimpArgs false
set_option linter.unnecessarySimpa false
set_option linter.unusedSectionVars false
open Go.Ab.AH renaming look->Xa,get->Xh,put->Xk,set->Xm
open Go.Ab.AV renaming wf->Xb,ren->Xc,cells->Xd,solid->Xe,flat0->Xf
open Go.Ab.AObj renaming part->Xg,upd->Xl
open Go.Ab.Kn renaming drop->Xi,set->Xj
open Nat renaming beq→Wa,blt→Wl,blt_eq→Wm,le_of_ble_eq_true→Ws,not_lt_zero→Wu,add_sub_cancel_left→WC
open List renaming replicate→Wc,getElem?_eq_getElem→Wd,range→Wf,getElem?_map→Wg,getD_eq_getElem?_getD→Wj,mem_of_getElem?→Wk,map_cons→Wn,mem_cons→Wp,all_eq_true→Wr,getElem_mem→Wv,map_congr_left→Wx,ext_getElem?→Wz,getElem?_range→WA,cons_append→WB,getElem?_append_left→WD,getElem?_eq_some_iff→WE,length_append→WF,take_add_one→WH
open Option renaming map_eq_some_iff→We,map_some→Ww,bind_some→Wy,bind_eq_some_iff→WG
open Bool renaming and_eq_true→Wh,false_ne_true→Wq,not_eq_true'→Wt
open Option.some renaming injEq→Wi
open Prod.mk renaming injEq→Wo
namespace Go.Ab
open Go.RowKit
def nos:Nat->Nat->Option (Nat×Nat×Nat):=λ_ _=>none
def allR:Nat->Nat->Prop:=λ_ _=>True
def noR:Nat->Nat->Prop:=λ_ _=>False
abbrev Frz(H:AH)(v a:AV):Prop:=Vw H [] nos allR false v a
def zn(P:Program)(f:FuncId)(args:List AV)(Q:AV->Prop):Prop :=
 zS P f args [] 0 (λv b _=>∃a,Frz b v a/\Q a)
inductive Lend(H:AH)(D:Nat->Nat->Prop):List AV->List AV->Prop
 |nil:Lend H D [] []
 |cons {a b asv bs} (h:Vw H [] nos D false a b) (t:Lend H D asv bs):Lend H D (a::asv) (b::bs)
section
variable {P:Program}{w w':World}{L:Nat->Prop}{ι:Inj}{H:AH}{nx:Nat}{D:Nat->Nat->Prop}
theorem zS.mono{f}{args}{Q Q'}(h:zS P f args H nx Q)(q:∀v H nx,Q v H nx->Q' v H nx):zS P f args H nx Q':=by intro w L ι s g j;exact(h w L ι s g j).mono λe w' ⟨v,c,d,b,a,k,m,n,o,p⟩=>⟨v,c,d,b,a,k,m,n,o,q _ _ _ p⟩
theorem zdx.ok{f}{args}{a}{k}(h:zdx P f args H nx a)(m:k a H nx):zS P f args H nx k:=by intro w L ι n b c;exact(h w L ι n b c).mono λe w' ⟨v,d,g,j⟩=>⟨v,ι,H,nx,a,d,g,Nat.le_refl _,j,m⟩
def zm0(L:Nat->Prop)(ι:Inj)(H:AH)(D:Nat->Nat->Prop):Nat->Prop:=λb=>Lt L ι H b/\¬ ∃r q d c g l,D r q/\H.get r q=some (.row d c g)/\ι r q g=some l/\0<l.cap*l.sz/\l.block=b
theorem zCM(rel:RelH w L ι H nx):∀b,zm0 L ι H D b->b<w.heap.size:=by
 rintro b ⟨h|h,_⟩
 .exact rel.Lsz b h
 .exact rel.live_lt h
theorem Lend.vrs(rel:RelH w L ι H nx){asv bs}(h:Lend H D asv bs):∀{d:List Value},VRs w (Lt L ι H) ι d asv->VRs w (Lt (zm0 L ι H D) noI []) noI d bs:=by
 induction h with
 |nil=>intro d h;cases h;exact .nil
 |cons h _ ih=>
  intro d m
  cases m with
  |cons h1 h2=>
   refine .cons ?_ (ih h2)
   exact(h.sound rel (M:=Lt (zm0 L ι H D) noI []) (λb c=>by rcases c with c|c;exact c.1;exact(zqA b c).elim)
    (λr q n e g l j k a3 a4 a5=>by rcases a5 with c|c;exact c.2 ⟨r,q,n,e,g,l,j,k,a3,a4,rfl⟩;exact(zqA _ c).elim) _ h1)
def AV.scal0:AV->Bool
 |.undef |.int .. |.bool _ |.str _ |.nilp |.nilfn |.nilsl |.cut=>true
 |_=>false
def AV.scal:AV->Bool
 |.agg l=>l.all AV.scal0
 |.tup l=>l.all AV.scal0
 |a=>a.scal0
theorem zAL{M M'}{ι ι'}{v}{a}(b:a.scal0=true)(h:VR w M ι v a):VR w M' ι' v a:=by cases h<;>first|(cases b;done)|(constructor<;>assumption)
theorem zKG{M M'}{ι ι'}{v}{a}(e:a.scal=true)(h:VR w M ι v a):VR w M' ι' v a:=by
 cases h with
 |agg _ k c g m j=>exact .agg _ _ _ g m (λi v a d b=>zAL (Wr.1 e a (Wk b)) (j i v a d b))
 |tup _ k c g j=>exact .tup _ _ _ g (λi v a d b=>zAL (Wr.1 e a (Wk b)) (j i v a d b))
 |undef=>exact .undef _ _
 |int _ _ _ h=>exact .int _ _ _ h
 |bool=>exact .bool _ _
 |str _ _ h=>exact .str _ _ h
 |nilp=>exact .nilp _
 |nilfn=>exact .nilfn _
 |nilsl=>exact .nilsl _
 |cut=>exact .cut _ _
 |_=>cases e
theorem zxO{f}{asv bs}{Q}(h:zn P f bs Q)(t:Lend H D asv bs)(u:∀a,Q a->a.scal=true\/∀r q,¬D r q){vs}(rel:RelH w L ι H nx)(y:VRs w (Lt L ι H) ι vs.toList asv) :
  Calls P f vs w (λe w'=>∃v a,e=.returned v/\Step w L ι H nx w' ι H nx/\VR w' (Lt L ι H) ι v a/\Q a):=by
 refine(h w (zm0 L ι H D) noI vs (.empty (zCM rel)) (t.vrs rel y)).mono λe w' ⟨v,B,C,z,a0,o,j,_,p,a,s,m⟩=>?_
 have c:∀b,b<w.heap.size->w'.heap[b]?=w.heap[b]? := λb d=>j.ext.block b d (zqA b)
 refine⟨v,a,o,⟨⟨j.ext.os,j.ext.tape,j.ext.output,j.ext.size,λb d _=>c b d⟩,λ_ _ _ _ h=>h,rel.grow j.ext.size c,λb d=>.inl d⟩,?_,m⟩;have key:VR w' (zm0 L ι H D) noI v a:=by refine s.sound j.rel (M:=zm0 L ι H D) (λb d=>.inl d) (λr q A k g l _ n a3 a4 a5=>?_) v p;exact j.rel.out _ ⟨r,q,A,k,g,l,n,a3,a4,rfl⟩ a5
 rcases u a m with x|hd
 .exact zKG x key
 .have:zm0 L ι H D=Lt L ι H:=by funext b;simp[zm0,hd]
  rw[this]at key;exact key.mono (λb _ d=>⟨rfl,d⟩) (λ_ _ _ _ h=>by cases h)
theorem zaW{f}{asv bs}{r}(h:zn P f bs (·=r))(j:Lend H D asv bs)(k:r.scal=true\/∀r q,¬D r q):zdx P f asv H nx r:=by intro w L ι n rel m;exact(zxO h j (λa e=>by subst e;exact k) rel m).mono λe w' ⟨v,a,b,c,d,g⟩=>⟨v,b,c,by rw[<-g];exact d⟩
theorem zmV{f}{asv bs}{Q}{k}(h:zn P f bs Q)(j:Lend H D asv bs)(n:∀a,Q a->a.scal=true\/∀r q,¬D r q)(m:∀v,Q v->k v H nx):
  zS P f asv H nx k:=by
 intro w L ι p rel o;exact(zxO h j n rel o).mono λe w' ⟨v,a,b,c,d,g⟩=>⟨v,ι,H,nx,a,b,c,Nat.le_refl _,d,m a g⟩
def AObj.ren(ρ:Nat->Nat):AObj->AObj
 |.row d b g=>.row d (b.map (·.map (Xc ρ))) g
 |.fam d c=>.fam d (c.map λp=>(p.1.map (·.map (Xc ρ)),p.2))
theorem AObj.part_ren(ρ:Nat->Nat)(o:AObj)(q:Nat):(o.ren ρ).part q=(o.part q).map (AObj.ren ρ):=by
 cases o with
 |row d c g=>cases q<;>rfl
 |fam d b=>
  cases q with
  |zero=>rfl
  |succ i=>simp only[AObj.ren,Xg,Wg,Option.map_map];cases b[i]? <;> rfl
end
def wpX(P:Program)(B:Nat)(c:ACode)(Q:QT)(K:Kn)(H:AH)(nx:Nat):Prop:=awp P B c Q K H nx
def seqQ(P:Program)(B:Nat)(b:ACode)(Q:QT):QT:=λe K H nx=>match e with
 |.normal=>awp P B b Q K H nx
 |e=>Q e K H nx
def zg0(id:Nat)(Q:QT):QT:=λe K H nx=>match e with
 |.exit b=>bif Wa b id then Q .normal K H nx else Q (.exit b) K H nx
 |e=>Q e K H nx
def zv5(P:Program)(B:Nat)(t:Bool)(a b:ACode)(Q:QT)(K:Kn)(H:AH)(nx:Nat):Prop:=zhj t (awp P B a Q K H nx) (awp P B b Q K H nx)
def zGN(P:Program)(B:Nat)(v:AV)(a b:ACode)(Q:QT)(K:Kn)(H:AH)(nx:Nat):Prop:=match v with
 |.bool t=>zhj t (awp P B a Q K H nx) (awp P B b Q K H nx)
 |_=>False
def zCP(P:Program)(B:Nat)(c:ACode)(Q:QT)(K:Kn)(H:AH)(nx:Nat):Prop:=zJo B (awp P B c) Q K H nx
def zKf(P:Program)(B:Nat)(c:ACode)(Q:QT)(K:Kn)(H:AH)(nx:Nat):Prop:=zJi B (awp P B c Q) K H nx
def zK5(P:Program)(B:Nat)(a b:ACode)(Q:QT)(K:Kn)(H:AH)(nx:Nat):Prop:=zJu B (awp P B a) (awp P B b Q) Q K H nx
def zJg(P:Program)(B:Nat)(c:List Nat)(v:AV)(a b:ACode)(Q:QT)(K:Kn)(H:AH)(nx:Nat):Prop:=zEZ P B (λN=>awp P N a) (λN=>awp P N b) c Q v K H nx
def jumpX(P:Program)(B l:Nat)(a b:ACode)(Q:QT)(K:Kn)(H:AH)(nx:Nat):Prop:=zJr B l (awp P B a) (awp P B b) Q K H nx
inductive Rest where
 |ops (os:List AOper)
 |tree (t:DTree)
def zaV(P:Program)(r:Rest)(drop:List Nat)(Q:QT)(K:Kn)(H:AH)(nx:Nat):Prop:=match r with
 |.ops b=>aops P b drop Q K H nx
 |.tree t=>awpT P t drop Q K H nx
def Rest.fx:Rest->Bool
 |.ops _=>true
 |.tree _=>false
def zIF(P:Program)(d:Option Nat)(r:Rest)(drop:List Nat)(Q:QT)(K:Kn):AV->AH->Nat->Prop:=λv H nx=>zaV P r drop Q (setO K d v) H nx
def opX(P:Program)(op:AOp)(d:Option Nat)(r:Rest)(drop:List Nat)(Q:QT)(K:Kn)(H:AH)(nx:Nat):Prop:=zcK P r.fx op K.get H nx (zIF P d r drop Q K)
def resX(P:Program)(o:ORes)(d:Option Nat)(r:Rest)(drop:List Nat)(Q:QT)(K:Kn):Prop:=znW r.fx o (zIF P d r drop Q K)
def zvJ(P:Program)(d:Option Nat)(r:Rest)(drop:List Nat)(Q:QT)(K:Kn):AV->AH->Nat->Prop:=λv H nx=>(bif r.fx then v.wf else True)->zaV P r drop Q (setO K d v) H nx
def zCE(P:Program)(f:FuncId)(args:List AV)(H:AH)(nx:Nat)(k:AV->AH->Nat->Prop):Prop:=zS P f args H nx k
def zDL(P:Program)(f:FuncId)(args:List AV)(d:Option Nat)(r:Rest)(drop:List Nat)(Q:QT)(K:Kn)(H:AH)(nx:Nat):Prop:=CallQ P f args H nx (λv=>zaV P r drop Q (setO K d v) H nx)
def zop(P:Program)(x:AV)(args:List AV)(H:AH)(nx:Nat)(k:AV->AH->Nat->Prop):Prop:=match x with
 |.fn (.func f) b=>zfd P f=true/\zS P f (args++b) H nx k
 |_=>False
def nilX(P:Program)(b:Option (Option Bool))(neg:Bool)(d:Option Nat)(r:Rest)(drop:List Nat)(Q:QT)(K:Kn)(H:AH)(nx:Nat):Prop:=match b with
 |some (some b)=>zaV P r drop Q (setO K d (.bool (b != neg))) H nx
 |some none=>∀b,zaV P r drop Q (setO K d (.bool b)) H nx
 |none=>False
def nextX(P:Program)(x:AV)(d:Option Nat)(r:Rest)(drop:List Nat)(Q:QT)(K:Kn)(H:AH)(nx:Nat):Prop:=zpQ x H nx (zIF P d r drop Q K)
def app2X(P:Program)(s b:Nat)(x y:AV)(d:Option Nat)(r:Rest)(drop:List Nat)(Q:QT)(K:Kn)(H:AH)(nx:Nat):Prop:=zo6 s b x y H nx (zIF P d r drop Q K)
def zl6(P:Program)(t:Bool)(op:AOp)(d:Option Nat)(r:Rest)(drop:List Nat)(Q:QT)(K:Kn)(H:AH)(nx:Nat):Prop:=zhj t (opX P op d r drop Q K H nx) (zaV P r drop Q (setO K d (.tup [])) H nx)
def zi8(P:Program)(v:AV)(c:Bool)(op:AOp)(d:Option Nat)(r:Rest)(drop:List Nat)(Q:QT)(K:Kn)(H:AH)(nx:Nat):Prop:=match grd c v with
 |some b=>zl6 P b op d r drop Q K H nx
 |none=>False
section
variable {P:Program}{B:Nat}{Q:QT}{K:Kn}{H:AH}{nx:Nat}{drop:List Nat}{os:List AOper}{d:Option Nat}{r:Rest}
theorem zHg:wpX P B .skip Q K H nx=Q .normal K H nx:=rfl
theorem zCz:wpX P B (.region os drop) Q K H nx=zaV P (.ops os) drop Q K H nx:=rfl
theorem zIr{t}:wpX P B (.draw t drop) Q K H nx=zaV P (.tree t) drop Q K H nx:=rfl
theorem zKm{a b}:wpX P B (.seq a b) Q K H nx=wpX P B a (seqQ P B b Q) K H nx:=rfl
theorem zIT{c}{a b}:wpX P B (.cond c a b) Q K H nx=zGN P B (ev K.get c) a b Q K H nx:=rfl
theorem zDJ{id}{c}:wpX P B (.block id c) Q K H nx=wpX P B c (zg0 id Q) K H nx:=rfl
theorem zHk{c}:wpX P B (.loop c) Q K H nx=zCP P B c Q K H nx:=rfl
theorem zG0{id}:wpX P B (.exit id) Q K H nx=Q (.exit id) K H nx:=rfl
theorem zKy:wpX P B .ret Q K H nx=Q .ret K H nx:=rfl
theorem zI2{n}{c}:wpX P B (.mark n c) Q K H nx=zKf P B c Q K H nx:=rfl
theorem zEX{c}:wpX P B (.scope c) Q K H nx=wpX P B c (noGQ Q) K H nx:=rfl
theorem zDQ{l}:wpX P B (.label l) Q K H nx=Q .normal K H nx:=rfl
theorem zIS{l}:wpX P B (.goto l) Q K H nx=Q (.goto l) K H nx:=rfl
theorem zHV{l}{a b}:wpX P B (.jump l a b) Q K H nx=jumpX P B l a b Q K H nx:=rfl
theorem zE3{g}{ps}{a b}:wpX P B (.range g ps a b) Q K H nx=zJg P B ps (ev K.get g) a b Q K H nx:=rfl
theorem zHy{a b}:wpX P B (.join a b) Q K H nx=zK5 P B a b Q K H nx:=rfl
theorem zzk{b}:seqQ P B b Q .normal K H nx=wpX P B b Q K H nx:=rfl
theorem zHH{b}:seqQ P B b Q .ret K H nx=Q .ret K H nx:=rfl
theorem zFl{b}{l}:seqQ P B b Q (.goto l) K H nx=Q (.goto l) K H nx:=rfl
theorem zEk{b}{id}:seqQ P B b Q (.exit id) K H nx=Q (.exit id) K H nx:=rfl
theorem zws{id}:zg0 id Q .normal K H nx=Q .normal K H nx:=rfl
theorem zAn{id l}:zg0 id Q (.goto l) K H nx=Q (.goto l) K H nx:=rfl
theorem zAt:noGQ Q .normal K H nx=Q .normal K H nx:=rfl
theorem zIt:noGQ Q .ret K H nx=Q .ret K H nx:=rfl
theorem zFB{id}:noGQ Q (.exit id) K H nx=Q (.exit id) K H nx:=rfl
theorem zDh{id}:zg0 id Q .ret K H nx=Q .ret K H nx:=rfl
theorem zy4{id id'}:zg0 id Q (.exit id') K H nx=bif Wa id' id then Q .normal K H nx else Q (.exit id') K H nx:=rfl
theorem zC7{t}{a b}:zGN P B (.bool t) a b Q K H nx=zv5 P B t a b Q K H nx:=rfl
theorem zCQ{a b}:zv5 P B true a b Q K H nx=wpX P B a Q K H nx:=by unfold zv5;rw[zhj.true];rfl
theorem zzS{a b}:zv5 P B false a b Q K H nx=wpX P B b Q K H nx:=by unfold zv5;rw[zhj.false];rfl
theorem zf{t}{a b}(c:t=true->wpX P B a Q K H nx)(e:t=false->wpX P B b Q K H nx):zv5 P B t a b Q K H nx:=⟨c,e⟩
theorem zJa{rs}{Post}:retK rs Post .ret K H nx=(zcb K H nx rs/\Post (zkZ (zaU K H nx rs)) H nx):=rfl
theorem zAf{rs}{Post}:retK rs Post .normal K H nx=(zcb K H nx rs/\Post (zkZ (zaU K H nx rs)) H nx):=rfl
theorem zD2:zaV P (.ops []) drop Q K H nx=Q .normal (K.drop drop) H nx:=rfl
theorem zCt{op}:zaV P (.ops (⟨d,op,none⟩::os)) drop Q K H nx=opX P op d (.ops os) drop Q K H nx:=rfl
theorem zzr{op}{t}{b}:zaV P (.ops (⟨d,op,some (t,b)⟩::os)) drop Q K H nx=zi8 P (K.get t) b op d (.ops os) drop Q K H nx:=rfl
theorem zC1:zaV P (.tree .done) drop Q K H nx=Q .normal (K.drop drop) H nx:=rfl
theorem zDp:zaV P (.tree .stop) drop Q K H nx=True:=rfl
theorem zDs{op}{t}:zaV P (.tree (.step ⟨d,op,none⟩ t)) drop Q K H nx=opX P op d (.tree t) drop Q K H nx:=rfl
theorem zzn{op}{t}{g}{b}:zaV P (.tree (.step ⟨d,op,some (g,b)⟩ t)) drop Q K H nx=zi8 P (K.get g) b op d (.tree t) drop Q K H nx:=rfl
theorem zFg{op}{t u}:zaV P (.tree (.alt ⟨d,op,none⟩ t u)) drop Q K H nx=(opX P op d (.tree t) drop Q K H nx/\zaV P (.tree u) drop Q K H nx):=rfl
theorem zC6{op}{t u}{g}{b}:zaV P (.tree (.alt ⟨d,op,some (g,b)⟩ t u)) drop Q K H nx=(zi8 P (K.get g) b op d (.tree t) drop Q K H nx/\zaV P (.tree u) drop Q K H nx):=rfl
theorem zCw{op}{b}:zi8 P (.bool b) true op d r drop Q K H nx=zl6 P b op d r drop Q K H nx:=by unfold zi8;cases b<;>rfl
theorem zGf{op}{b}:zi8 P (.bool b) false op d r drop Q K H nx=zl6 P (!b) op d r drop Q K H nx:=by unfold zi8;cases b<;>rfl
theorem zzb{op}{want}:zi8 P (.tup []) want op d r drop Q K H nx=zaV P r drop Q (setO K d (.tup [])) H nx:=by unfold zi8 grd zl6;simp only[zhj.false]
theorem zzu{op}:zl6 P true op d r drop Q K H nx=opX P op d r drop Q K H nx:=by unfold zl6;rw[zhj.true]
theorem zyg{op}:zl6 P false op d r drop Q K H nx=zaV P r drop Q (setO K d (.tup [])) H nx:=by unfold zl6;rw[zhj.false]
theorem zHb{s f}{v}{c}{b}:resX P ⟨s,f,v,c,b⟩ d (.ops os) drop Q K=(s/\(f->zaV P (.ops os) drop Q (setO K d v) c b)):=rfl
theorem zFD{s f}{v}{c}{b}{t}:resX P ⟨s,f,v,c,b⟩ d (.tree t) drop Q K=(s/\zaV P (.tree t) drop Q (setO K d v) c b):=by unfold resX znW Rest.fx;simp only[cond_false,true_implies];rfl
theorem zKo{x}:opX P (.mov x) d r drop Q K H nx=zaV P r drop Q (setO K d (ev K.get x)) H nx:=by unfold opX zcK znW aop;cases r<;>simp only[Rest.fx,cond_true,cond_false,true_implies,true_and]<;>rfl
theorem zEF{s}:opX P (.mknil s) d r drop Q K H nx=zaV P r drop Q (setO K d (.own nx 0 0 0 0)) (H.set nx 0 (.row s [] 0)) (nx+1):=by unfold opX zcK znW aop zlL;cases r<;>simp only[Rest.fx,cond_true,cond_false,true_implies,true_and]<;>rfl
theorem zIk{c x y}:opX P (.pick c x y) d r drop Q K H nx=resX P (zlu (ev K.get c) (ev K.get x) (ev K.get y) H nx) d r drop Q K:=rfl
theorem zGW{g}{n}{p}:opX P (.load g n p) d r drop Q K H nx=resX P (zd5 g n (ev K.get p) H nx) d r drop Q K:=rfl
theorem zE6{n}{p v}:opX P (.store n p v) d r drop Q K H nx=resX P (zfu n (ev K.get p) (ev K.get v) H nx) d r drop Q K:=rfl
theorem zKu{s}{x i}:opX P (.idx s x i) d r drop Q K H nx=resX P (idxR s (ev K.get x) (ev K.get i) H nx) d r drop Q K:=rfl
theorem zAu{o n}{x}:opX P (.fldaddr o n x) d r drop Q K H nx=resX P (zcO o n (ev K.get x) H nx) d r drop Q K:=rfl
theorem zLf{o n}{g}{x}:opX P (.fld o n g x) d r drop Q K H nx=resX P (fldR o n g (ev K.get x) H nx) d r drop Q K:=rfl
theorem zJS{x}:opX P (.len x) d r drop Q K H nx=resX P (lenR (ev K.get x) H nx) d r drop Q K:=rfl
theorem zGT{x}:opX P (.slen x) d r drop Q K H nx=resX P (zte (ev K.get x) H nx) d r drop Q K:=rfl
theorem zKB{o}{x y}:opX P (.bin o x y) d r drop Q K H nx=resX P (binI o (ev K.get x) (ev K.get y) H nx) d r drop Q K:=rfl
theorem zJC{n}{x y}:opX P (.eqb n x y) d r drop Q K H nx=resX P (eqB n (ev K.get x) (ev K.get y) H nx) d r drop Q K:=rfl
theorem opX_un{o}{x}:opX P (.un o x) d r drop Q K H nx=resX P (unR o (ev K.get x) H nx) d r drop Q K:=rfl
theorem zIM{k}{x}:opX P (.conv k x) d r drop Q K H nx=resX P (zmt k (ev K.get x) H nx) d r drop Q K:=rfl
theorem zFx{z}{ps}:opX P (.build z ps) d r drop Q K H nx=resX P (zg3 z (zeD K.get ps) H nx) d r drop Q K:=rfl
theorem zzw{s l}{z}{ps}:opX P (.buildSl s l z ps) d r drop Q K H nx=resX P (zcM s l z (zkD K.get ps) H nx) d r drop Q K:=rfl
theorem zLg{x}:opX P (.box x) d r drop Q K H nx=resX P (boxR (ev K.get x) H nx) d r drop Q K:=rfl
theorem zH2{x}:opX P (.rbox x) d r drop Q K H nx=resX P (zoC (ev K.get x) H nx) d r drop Q K:=rfl
theorem zxw{s l}{z}{ps}:opX P (.rbuildSl s l z ps) d r drop Q K H nx=resX P (zbu s l z (zkD K.get ps) H nx) d r drop Q K:=rfl
theorem zGG{x}:opX P (.mnext x) d r drop Q K H nx=nextX P (ev K.get x) d r drop Q K H nx:=rfl
theorem zyT{s b}{x y}:opX P (.append2 s b x y) d r drop Q K H nx=app2X P s b (ev K.get x) (ev K.get y) d r drop Q K H nx:=rfl
theorem zER{z}:opX P (.alloc z) d r drop Q K H nx=resX P (zjz z H nx) d r drop Q K:=rfl
theorem zIy{s b}{z}{l c}:opX P (.mksl s b z l c) d r drop Q K H nx=resX P (zlz s b z (ev K.get l) (ev K.get c) H nx) d r drop Q K:=rfl
theorem zGJ{s}{x}{l h}:opX P (.slice s x l h) d r drop Q K H nx=resX P (zfY s (ev K.get x) (evO K.get l) (evO K.get h) H nx) d r drop Q K:=rfl
theorem zJ1{x}:opX P (.cut x) d r drop Q K H nx=resX P (cutR (ev K.get x) H nx) d r drop Q K:=rfl
theorem zGY{f:Fn}{cs}:opX P (.mkfn f cs) d r drop Q K H nx=zaV P r drop Q (setO K d (.fn f (evs K.get cs))) H nx:=by unfold opX zcK znW aop;cases r<;>simp only[Rest.fx,cond_true,cond_false,true_implies,true_and]<;>rfl
theorem zCg{s b}{x y}:opX P (.append s b x y) d r drop Q K H nx=resX P (ze8 s b (ev K.get x) (ev K.get y) H nx) d r drop Q K:=rfl
theorem zDN{s}{z}{x}:opX P (.clear s z x) d r drop Q K H nx=resX P (ziF s z (ev K.get x) H nx) d r drop Q K:=rfl
theorem zKc{i}{x}:opX P (.ext i x) d r drop Q K H nx=resX P (extR i (ev K.get x) H nx) d r drop Q K:=rfl
theorem zDE{n p}{x}:opX P (.isnil n p x) d r drop Q K H nx=nilX P (nilB p (ev K.get x)) n d r drop Q K H nx:=rfl
theorem zI9{f}{xs}:opX P (.call f xs) d r drop Q K H nx=zCE P f (evs K.get xs) H nx (zvJ P d r drop Q K):=rfl
theorem zEt{f}{xs}:opX P (.callq f xs) d r drop Q K H nx=zDL P f (evs K.get xs) d r drop Q K H nx:=rfl
theorem zKt{x}{xs}:opX P (.xop x xs) d r drop Q K H nx=resX P (xopR x (evs K.get xs) H nx) d r drop Q K:=rfl
theorem zEQ{x}{xs}:opX P (.callv x xs) d r drop Q K H nx=zop P (ev K.get x) (evs K.get xs) H nx (zvJ P d r drop Q K):=rfl
theorem ziU{f}{caps args}{k}:zop P (.fn (.func f) caps) args H nx k=(zfd P f=true/\zCE P f (args++caps) H nx k):=rfl
theorem zJG{b n}:nilX P (some (some b)) n d r drop Q K H nx=zaV P r drop Q (setO K d (.bool (b != n))) H nx:=rfl
theorem zHA{n}:nilX P (some none) n d r drop Q K H nx=∀b,zaV P r drop Q (setO K d (.bool b)) H nx:=rfl
theorem zDX{v}{H'}{nx'}:zvJ P d (.ops os) drop Q K v H' nx'=(v.wf->zaV P (.ops os) drop Q (setO K d v) H' nx'):=rfl
theorem zDv{v}{H'}{nx'}{t}:zvJ P d (.tree t) drop Q K v H' nx'=zaV P (.tree t) drop Q (setO K d v) H' nx':=by unfold zvJ Rest.fx;simp only[cond_false,true_implies]
theorem ze{f}{args}{a}{k}(h:zdx P f args H nx a)(b:k a H nx):zCE P f args H nx k:=h.ok b
theorem zH{f}{args}{Q Q'}(h:zS P f args H nx Q)(b:∀v H nx,Q v H nx->Q' v H nx):zCE P f args H nx Q':=zS.mono h b
theorem zC{f}{args}{a}(h:zdx P f args H nx a)(b:zaV P r drop Q (setO K d a) H nx):zDL P f args d r drop Q K H nx:=⟨a,h,b⟩
def zsH(B:Nat){α:Type}(S:α->Kn×AH)(N:Nat)(c:α->Prop)(μ:α->Nat)(a:α)(Q:QT):QT:=λe K H nx=>match e with
 |.normal=>∃b,c b/\μ b<μ a/\Ent B K H nx (S b).1 (S b).2 N
 |e=>Q e K H nx
theorem zyn{α:Type}{S:α->Kn×AH}{N:Nat}{b:α->Prop}{μ:α->Nat}{a:α}:zsH B S N b μ a Q .normal K H nx=∃c,b c/\μ c<μ a/\Ent B K H nx (S c).1 (S c).2 N:=rfl
theorem zCY{α:Type}{S:α->Kn×AH}{N:Nat}{b:α->Prop}{μ:α->Nat}{a:α}{l:Nat}:zsH B S N b μ a Q (.goto l) K H nx=Q (.goto l) K H nx:=rfl
theorem zED{α:Type}{S:α->Kn×AH}{N:Nat}{b:α->Prop}{μ:α->Nat}{a:α}:zsH B S N b μ a Q .ret K H nx=Q .ret K H nx:=rfl
theorem zCn{α:Type}{S:α->Kn×AH}{N:Nat}{b:α->Prop}{μ:α->Nat}{a:α}{id:Nat}:zsH B S N b μ a Q (.exit id) K H nx=Q (.exit id) K H nx:=rfl
theorem zd{c}{α:Type}(S:α->Kn×AH)(N:Nat)(b:α->Prop)(μ:α->Nat)(a0:α)(g:b a0)(k:Ent B K H nx (S a0).1 (S a0).2 N)(j:∀a,b a->WfK (S a).1->wpX P B c (zsH B S N b μ a Q) (S a).1 (S a).2 N):zCP P B c Q K H nx:=by
 refine⟨α,S,N,b,μ,⟨a0,g,k⟩,λa h m=>?_⟩;have:=j a h m;unfold wpX at this;refine Eq.mp (congrArg (λq=>awp P B c q (S a).1 (S a).2 N) (funext λe=>funext λK=>funext λH=>funext λnx=>?_)) this;cases e<;>rfl
theorem zaD{c}(e)(b)(nx2)(h:WfK K->Ent B K H nx e b nx2/\wpX P B c Q e b nx2):zKf P B c Q K H nx:=λg=>⟨e,b,nx2,h g⟩
def zue(B:Nat){α:Type}(S:α->Kn×AH)(N:Nat)(c:α->Prop)(Q:QT):QT:=λe K H nx=>match e with
 |.normal=>∃b,c b/\Ent B K H nx (S b).1 (S b).2 N
 |e=>Q e K H nx
theorem zyB{α:Type}{S:α->Kn×AH}{N:Nat}{b:α->Prop}:zue B S N b Q .normal K H nx=∃c,b c/\Ent B K H nx (S c).1 (S c).2 N:=rfl
theorem zDo{α:Type}{S:α->Kn×AH}{N:Nat}{b:α->Prop}{l:Nat}:zue B S N b Q (.goto l) K H nx=Q (.goto l) K H nx:=rfl
theorem zGu{α:Type}{S:α->Kn×AH}{N:Nat}{b:α->Prop}:zue B S N b Q .ret K H nx=Q .ret K H nx:=rfl
theorem zCm{α:Type}{S:α->Kn×AH}{N:Nat}{b:α->Prop}{id:Nat}:zue B S N b Q (.exit id) K H nx=Q (.exit id) K H nx:=rfl
theorem zzf{a b}{α:Type}(S:α->Kn×AH)(N:Nat)(c:α->Prop)(g:wpX P B a (zue B S N c Q) K H nx)(h:∀x,c x->WfK (S x).1->wpX P B b Q (S x).1 (S x).2 N):zK5 P B a b Q K H nx:=by refine⟨α,S,N,c,?_,h⟩;unfold wpX at g;refine Eq.mp (congrArg (λq=>awp P B a q K H nx) (funext λe=>funext λK=>funext λH=>funext λnx=>?_)) g;cases e<;>rfl
def zxB(B l:Nat){α:Type}(S:α->Kn×AH)(N:Nat)(c:α->Prop)(Q:QT):QT:=λe K H nx=>match e with
 |.goto g=>g=l/\∃b,c b/\Ent B K H nx (S b).1 (S b).2 N
 |e=>Q e K H nx
def zxz(B l:Nat){α:Type}(S:α->Kn×AH)(N:Nat)(c:α->Prop)(μ:α->Nat)(a:α)(Q:QT):QT:=λe K H nx=>match e with
 |.goto g=>g=l/\∃b,c b/\μ b<μ a/\Ent B K H nx (S b).1 (S b).2 N
 |e=>Q e K H nx
theorem zB4{l e:Nat}{α:Type}{S:α->Kn×AH}{N:Nat}{b:α->Prop}:zxB B l S N b Q (.goto e) K H nx=(e=l/\∃c,b c/\Ent B K H nx (S c).1 (S c).2 N):=rfl
theorem zxE{l:Nat}{α:Type}{S:α->Kn×AH}{N:Nat}{b:α->Prop}:zxB B l S N b Q .normal K H nx=Q .normal K H nx:=rfl
theorem zFY{l:Nat}{α:Type}{S:α->Kn×AH}{N:Nat}{b:α->Prop}:zxB B l S N b Q .ret K H nx=Q .ret K H nx:=rfl
theorem zCa{l id:Nat}{α:Type}{S:α->Kn×AH}{N:Nat}{b:α->Prop}:zxB B l S N b Q (.exit id) K H nx=Q (.exit id) K H nx:=rfl
theorem zCI{l e:Nat}{α:Type}{S:α->Kn×AH}{N:Nat}{b:α->Prop}{μ:α->Nat}{a:α}:zxz B l S N b μ a Q (.goto e) K H nx=(e=l/\∃c,b c/\μ c<μ a/\Ent B K H nx (S c).1 (S c).2 N):=rfl
theorem zyv{l:Nat}{α:Type}{S:α->Kn×AH}{N:Nat}{b:α->Prop}{μ:α->Nat}{a:α}:zxz B l S N b μ a Q .normal K H nx=Q .normal K H nx:=rfl
theorem zGA{l:Nat}{α:Type}{S:α->Kn×AH}{N:Nat}{b:α->Prop}{μ:α->Nat}{a:α}:zxz B l S N b μ a Q .ret K H nx=Q .ret K H nx:=rfl
theorem zDn{l id:Nat}{α:Type}{S:α->Kn×AH}{N:Nat}{b:α->Prop}{μ:α->Nat}{a:α}:zxz B l S N b μ a Q (.exit id) K H nx=Q (.exit id) K H nx:=rfl
def asgQ(P:Program)(N:Nat)(b:ACode)(R:QT):QT:=λe K H nx=>match e with
 |.normal=>awp P N b R K H nx
 |_=>False
def rngQ{σ α:Type}(B:Nat)(g:Kn)(S:α->AH)(N:Nat)(h:α->σ->Prop)(c:α->AExit->Prop)(j:σ):QT:=λe K H nx=>match e with
 |.normal=>∃b,h b j/\Ent B g H nx g (S b) N
 |.goto _=>False
 |e=>∃b,c b e/\Ent B g H nx g (S b) N
theorem fn_x{f}{q}{ac}{rs}{nt}(b:zM P f q=some (ac.strip,rs,nt)){args}{Post}(c:Nat.ble args.length nt=true)(h:wpX P nx ac (retK rs Post) (zmR 0 args) H nx):zS P f args H nx Post:=fn_of b (Ws c) h
theorem zgX(a b:Nat):Wa a b=(a == b):=by
 cases h:Wa a b with
 |true=>rw[zm h];simp
 |false=>
  have:a≠b:=λe=>by rw[e,zbP]at h;cases h
  simp[this]
end
def subK:Kn->Kn->Prop
 |[],_=>True
 |(j,v)::t,K=>K.get j=v/\subK t K
theorem zv7{K}:∀{b:Kn},subK b K->∀i,b.get i=.undef\/b.get i=K.get i
 |[],_,i=>.inl rfl
 |
  (j,v)::t,h,i=>by
  simp only[Kn.get]
  cases c:Wa j i with
  |true=>rw[<-zm c];exact .inr h.1.symm
  |false=>exact zv7 h.2 i
theorem Ent.keep{B}{K K2}{H}{nx}(c:Nat.ble B nx=true)(h:subK K2 K):Ent B K H nx K2 H nx:=by
 refine⟨Ws c,λw L ι tmps rel j=>⟨ι,rel,λi=>?_,λb d=>d,λr q g l _ k=>k⟩⟩;rcases zv7 h i with e|e
 .rw[e];exact .undef _ _
 .rw[e];exact j i
theorem Ent.same{B}{K K2}{H H2}{nx}(z:B<=nx)(t:∀r,H2.look r=H.look r)(h:subK K2 K):Ent B K H nx K2 H2 nx:=by
 have c:∀r q,H2.get r q=H.get r q:=λr q=>by unfold Xh;rw[t]
 refine⟨z,λw L ι tmps rel A=>⟨ι,?_,λi=>?_,λb m=>?_,λr q g l _ k=>k⟩⟩
 .have k:∀b,live ι H2 b↔live ι H b:=λb=>by simp only[live,c]
  have j:Lt L ι H2=Lt L ι H:=by funext b;simp only[Lt,k]
  exact⟨λr q n d g h=>by rw[j];rw[c]at h;exact rel.row r q n d g h,λJ F M I N u x C O v y D p s=>by rw[c]at p s;exact rel.apart J F M I N u x C O v y D p s,
   λb m=>rel.out b ((k b).1 m),rel.idx,λr o h=>by rw[t]at h;exact rel.dom r o h,λr q n d g h=>by rw[c]at h;exact rel.gen r q n d g h,rel.Lsz⟩
 .have k:∀b,live ι H2 b↔live ι H b:=λb=>by simp only[live,c]
  have j:Lt L ι H2=Lt L ι H:=by funext b;simp only[Lt,k]
  rw[j];rcases zv7 h i with e|e
  .rw[e];exact .undef _ _
  .rw[e];exact A i
 .simp only[live,c]at m⊢;exact m
abbrev Tab:=List (Nat×Nat×Nat)
def Tab.at:Tab->Nat->Option (Nat×Nat)
 |[],_=>none
 |(b,r,d)::t,x=>bif Wa b x then some (r,d)else Tab.at t x
def Tab.sig(t:Tab):Nat->Nat->Option (Nat×Nat×Nat):=λc b=>match t.at c with
 |some (r,d)=>some (r,b,d)
 |none=>none
def inD(b:List Nat):Nat->Nat->Prop:=λr _=>memN b r=true
def Tab.ok(n:Nat)(b:List Nat):Tab->Bool
 |[]=>true
 |(c,r,_)::t=>Wl c n && !(memN b r) && !(memN (t.map (·.2.1)) r)&&Tab.ok n b t
def zml(H h:AH)(t:Tab)(j:List Nat)(n:Nat):AH->Prop
 |[]=>True
 |(g,.row k c m)::u=>Wl g n=true/\(match t.at g with
   |some (r,d)=>∃b,H.get r 0=some (.row k b (m+d))/\RowV H h t.sig (inD j) b c
   |none=>c=[]/\m=0)/\zml H h t j n u
 |(g,.fam k e)::u=>Wl g n=true/\(match t.at g with
   |some (r,d)=>∀(i:Nat) (p:List (List AV)×Nat),e[i]?=some p->∃b,H.get r (i+1)=some (.row k b (p.2+d))/\RowV H h t.sig (inD j) b p.1
   |none=>∀(i:Nat) (p:List (List AV)×Nat),e[i]?=some p->p=([],0))/\zml H h t j n u
def zsM(H b:AH)(t:Tab)(c:List Nat):Kn->Kn->Prop
 |[],_=>True
 |(j,v)::u,K=>Vw H b t.sig (inD c) true (K.get j) v/\zsM H b t c u K
theorem zqX{H HH}{t}{ds}{K}:∀{b:Kn},zsM H HH t ds b K->∀i,Vw H HH t.sig (inD ds) true (K.get i) (b.get i)
 |[],_,i=>.undef _ _
 |
  (j,v)::u,h,i=>by
  simp only[Kn.get]
  cases c:Wa j i with
  |true=>rw[<-zm c];exact h.1
  |false=>exact zqX h.2 i
theorem Tab.ok_at{n}{ds}:∀{t:Tab},t.ok n ds=true->∀{x r d},t.at x=some (r,d)->x<n/\memN ds r=false/\r∈t.map (·.2.1)
 |[],_,x,r,d,h=>by cases h
 |
  (r',r0,d0)::t,h,x,r,d,b=>by
  simp only[Tab.ok,Wh,Wt]at h;obtain⟨⟨⟨j,k⟩,h3⟩,h4⟩:=h;simp only[Tab.at]at b
  cases c:Wa r' x with
  |true=>rw[c]at b;cases b;have:=zm c;subst this;exact⟨by simpa [Wm]using j,k,by simp⟩
  |false=>rw[c]at b;obtain⟨e,g,a3⟩:=Tab.ok_at h4 b;exact⟨e,g,by simp only[Wn,Wp];exact .inr a3⟩
theorem Tab.ok_inj{n}{ds}:∀{t:Tab},t.ok n ds=true->∀{x y r d e},t.at x=some (r,d)->t.at y=some (r,e)->x=y
 |[],_,x,y,r,d,e,h,_=>by cases h
 |
  (r',r0,d0)::t,h,x,y,r,d,e,b,c=>by
  have k:=h;simp only[Tab.ok,Wh,Wt]at k;obtain⟨⟨⟨m,o⟩,h3⟩,h4⟩:=k;simp only[Tab.at]at b c
  cases j:Wa r' x with
  |true=>
   cases g:Wa r' y with
   |true=>exact(zm j).symm.trans (zm g)
   |false=>rw[j]at b;rw[g]at c;cases b;have:=(Tab.ok_at h4 c).2.2;exact absurd ((zar _ _).2 this) (by rw[h3];exact Wq)
  |false=>
   cases g:Wa r' y with
   |true=>rw[j]at b;rw[g]at c;cases c;have:=(Tab.ok_at h4 b).2.2;exact absurd ((zar _ _).2 this) (by rw[h3];exact Wq)
   |false=>rw[j]at b;rw[g]at c;exact Tab.ok_inj h4 b c
theorem zqb{H HH}{t}{ds}{n}:∀{b:AH},zml H HH t ds n b->∀r o,b.look r=some o->r<n
 |[],_,r,o,h=>by cases h
 |
  (r',e)::u,h,r,o,hl=>by
  have d:Wl r' n=true/\zml H HH t ds n u:=by cases e<;>exact⟨h.1,h.2.2⟩
  simp only[Xa]at hl
  cases c:Wa r' r with
  |true=>rw[<-zm c];simpa [Wm]using d.1
  |false=>rw[c]at hl;exact zqb d.2 r o hl
theorem zpJ{H HH}{t}{ds}{n}:∀{y:AH},zml H HH t ds n y->∀k j s b m,y.get k j=some (.row s b m) ->
  (∃r q d c,t.sig k j=some (r,q,d)/\H.get r q=some (.row s c (m+d))/\RowV H HH t.sig (inD ds) c b)\/(t.sig k j=none/\b=[]/\m=0)
 |[],_,k,j,s,b,m,h=>by cases h
 |
  (r0,A)::u,h,k,j,s,b,m,e=>by
  have C:zml H HH t ds n u:=by cases A<;>exact h.2.2
  unfold Xh at e;simp only[Xa]at e
  cases x:Wa r0 k with
  |false=>rw[x]at e;exact zpJ C k j s b m e
  |true=>
   rw[x]at e;have:=zm x;subst this;simp only[cond_true,Wy]at e
   cases A with
   |row sz0 els0 g0=>
    cases j with
    |succ q=>cases e
    |zero=>
     simp only[Xg,Wi,AObj.row.injEq]at e;obtain⟨rfl,rfl,rfl⟩:=e;have g:=h.2.1;unfold Tab.sig
     cases o:t.at r0 with
     |none=>rw[o]at g;exact .inr ⟨rfl,g⟩
     |some p=>obtain⟨r,d⟩:=p;rw[o]at g;obtain⟨c,v,w⟩:=g;exact .inl ⟨r,0,d,c,rfl,v,w⟩
   |fam sz0 ins=>
    cases j with
    |zero=>cases e
    |succ i=>
     simp only[Xg]at e;obtain⟨p,z,B⟩:=We.1 e;cases B;have g:=h.2.1;unfold Tab.sig
     cases o:t.at r0 with
     |none=>rw[o]at g;have:=g i p z;rw[this];exact .inr ⟨rfl,rfl,rfl⟩
     |some p'=>obtain⟨r,d⟩:=p';rw[o]at g;obtain⟨c,v,w⟩:=g i p z;exact .inl ⟨r,i+1,d,c,rfl,v,w⟩
theorem Ent.tab{K K2}{H H2}{nx nx2}(t)(ds)(c:t.ok nx2 ds=true)(o:zml H H2 t ds nx2 H2)(s:zsM H H2 t ds K2 K):Ent 0 K H nx K2 H2 nx2:=by
 refine Ent.view t.sig (inD ds) ⟨Nat.zero_le _,λr q h=>absurd h (Wu _),?_,?_,?_,zqb o,zpJ o⟩ (zqX s)
 .intro w B y C r q z A g j;unfold Tab.sig at g j
  cases b:t.at w with
  |none=>rw[b]at g;cases g
  |some k=>
   cases m:t.at y with
   |none=>rw[m]at j;cases j
   |some u=>rw[b]at g;rw[m]at j;simp only[Wi,Wo]at g j;obtain⟨rfl,rfl,rfl⟩:=g;obtain⟨p,rfl,rfl⟩:=j;refine⟨Tab.ok_inj c (d:=k.2) (e:=u.2) b ?_,rfl⟩;rw[m,<-p]
 .intro n v r q d h;unfold Tab.sig at h
  cases b:t.at n with
  |none=>rw[b]at h;cases h
  |some k=>rw[b]at h;simp only[Wi,Wo]at h;obtain⟨rfl,_,rfl⟩:=h;have:=(Tab.ok_at c (d:=k.2) b).2.1;unfold inD;rw[this];exact Wq
 .intro n v x h;unfold Tab.sig at h
  cases b:t.at n with
  |none=>rw[b]at h;cases h
  |some k=>exact(Tab.ok_at c (d:=k.2) b).1
def zn8(u:Option AObj)(H:AH)(r q:Nat)(o:AObj):AH:=match u with
 |some u=>H.put r (u.upd q o)
 |none=>H.put r o
theorem ev_t{ρ}{n}:ev ρ (.t n)=ρ n:=rfl
theorem ev_c{ρ}{v}:ev ρ (.c v)=v:=rfl
theorem zJF{ρ}:evs ρ []=[]:=rfl
theorem zIv{ρ}{x}{l}:evs ρ (x::l)=ev ρ x::evs ρ l:=rfl
theorem zyU{ρ}:zeD ρ []=[]:=rfl
theorem zyD{ρ}{a b}{x}{l}:zeD ρ ((a,b,x)::l)=(a,b,ev ρ x)::zeD ρ l:=rfl
theorem zF7{ρ}:zkD ρ []=[]:=rfl
theorem zDr{ρ}{a}{x}{l}:zkD ρ ((a,x)::l)=(a,ev ρ x)::zkD ρ l:=rfl
theorem zHG{ρ}:evO ρ none=none:=rfl
theorem zHx{ρ}{x}:evO ρ (some x)=some (ev ρ x):=rfl
theorem zEo{K}{v}:setO K none v=K:=rfl
theorem zF9{K}{d}{v}:setO K (some d) v=K.set d v:=rfl
theorem zG1{i}:Kn.get [] i=.undef:=rfl
theorem zD0{j}{v}{t}{i}:Kn.get ((j,v)::t) i=bif (j == i)then v else Kn.get t i:=by rw[<-zgX];rfl
theorem zHu{i}{v}:Xj [] i v=[(i,v)]:=rfl
theorem zFe{j}{u v}{t}{i}:Xj ((j,u)::t) i v=bif (j == i)then(i,v)::t else(j,u)::Xj t i v:=by rw[<-zgX];rfl
theorem zFW{l}:Xi [] l=[]:=rfl
theorem zCS{j}{v}{t}{l}:Xi ((j,v)::t) l=bif memN l j then Xi t l else(j,v)::Xi t l:=rfl
theorem zIa{i}:memN [] i=false:=rfl
theorem zFA{j}{t}{i}:memN (j::t) i=bif (j == i)then true else memN t i:=by rw[<-zgX];rfl
theorem zEK{i}:zmR i []=[]:=rfl
theorem zCi{i}{a}{r}:zmR i (a::r)=(i,a)::zmR (i+1) r:=rfl
theorem zz0{K}{H}{nx}:zcb K H nx []=True:=rfl
theorem zy9{K}{H}{nx t}{r}:zcb K H nx (.tmp t::r)=zcb K H nx r:=rfl
theorem zxv{K}{H}{nx t n}{g}{r}:zcb K H nx (.cell t g n::r)=((zd5 g n (K.get t) H nx).side/\zcb K H nx r):=rfl
theorem zAp{K}{H}{nx}:zaU K H nx []=[]:=rfl
theorem zzi{K}{H}{nx t}{r}:zaU K H nx (.tmp t::r)=K.get t::zaU K H nx r:=rfl
theorem zyd{K}{H}{nx t n}{g}{r}:zaU K H nx (.cell t g n::r)=(zd5 g n (K.get t) H nx).v::zaU K H nx r:=rfl
theorem zDz{v}:zkZ [v]=v:=rfl
theorem zCo:zkZ []=.tup []:=rfl
theorem zGb{u v}{l}:zkZ (u::v::l)=.tup (u::v::l):=rfl
theorem zGX{r}:Xa [] r=none:=rfl
theorem zFO{j}{o}{t}{r}:Xa ((j,o)::t) r=bif (j == r)then some o else Xa t r:=by rw[<-zgX];rfl
theorem zJL{r}{o}:Xk [] r o=[(r,o)]:=rfl
theorem zHU{j}{u o}{t}{r}:Xk ((j,u)::t) r o=bif (j == r)then(r,o)::t else(j,u)::Xk t r o:=by rw[<-zgX];rfl
theorem zHN{H}{r q}:Xh H r q=(Xa H r).bind (·.part q):=rfl
theorem zHp{H}{r q}{o}:Xm H r q o=zn8 (Xa H r) H r q o:=by unfold Xm zn8;split<;>simp_all
theorem zAd{u}{H}{r q}{o}:zn8 (some u) H r q o=H.put r (u.upd q o):=rfl
theorem zzR{H}{r q}{o}:zn8 none H r q o=H.put r o:=rfl
theorem zHo{sz g}{els}:Xg (.row sz els g) 0=some (.row sz els g):=rfl
theorem zHW{sz i}{ins}:Xg (.fam sz ins) (i+1)=(ins[i]?).map λp=>.row sz p.1 p.2:=rfl
theorem zJ6{sz g}{els}{o}{q}:Xl (.row sz els g) q o=o:=by cases o<;>rfl
theorem zKI{sz sz' i g}{ins}{els}:Xl (.fam sz ins) (i+1) (.row sz' els g)=.fam sz (ins.set i (els,g)):=rfl
theorem zCr{o:AObj}{f:AObj->Option AObj}:(some o).bind f=f o:=rfl
theorem evS :
 (∀{P:Program}{B:Nat}{Q:QT}{K:Kn}{H:AH}{nx:Nat},wpX P B .skip Q K H nx=Q .normal K H nx) /\
 (∀{P:Program}{B:Nat}{Q:QT}{K:Kn}{H:AH}{nx:Nat}{drop:List Nat}{C:List AOper},wpX P B (.region C drop) Q K H nx=zaV P (.ops C) drop Q K H nx) /\
 (∀{P:Program}{B:Nat}{Q:QT}{K:Kn}{H:AH}{nx:Nat}{drop:List Nat}{t:DTree},wpX P B (.draw t drop) Q K H nx=zaV P (.tree t) drop Q K H nx) /\
 (∀{P:Program}{B:Nat}{Q:QT}{K:Kn}{H:AH}{nx:Nat}{a b:ACode},wpX P B (.seq a b) Q K H nx=wpX P B a (seqQ P B b Q) K H nx) /\
 (∀{P:Program}{B:Nat}{Q:QT}{K:Kn}{H:AH}{nx:Nat}{c:AOpd}{a b:ACode},wpX P B (.cond c a b) Q K H nx=zGN P B (ev K.get c) a b Q K H nx) /\
 (∀{P:Program}{B:Nat}{Q:QT}{K:Kn}{H:AH}{nx:Nat}{id:Nat}{c:ACode},wpX P B (.block id c) Q K H nx=wpX P B c (zg0 id Q) K H nx) /\
 (∀{P:Program}{B:Nat}{Q:QT}{K:Kn}{H:AH}{nx:Nat}{c:ACode},wpX P B (.loop c) Q K H nx=zCP P B c Q K H nx) /\
 (∀{P:Program}{B:Nat}{Q:QT}{K:Kn}{H:AH}{nx:Nat}{id:Nat},wpX P B (.exit id) Q K H nx=Q (.exit id) K H nx) /\
 (∀{P:Program}{B:Nat}{Q:QT}{K:Kn}{H:AH}{nx:Nat},wpX P B .ret Q K H nx=Q .ret K H nx) /\
 (∀{P:Program}{B:Nat}{Q:QT}{K:Kn}{H:AH}{nx:Nat}{n:Nat}{c:ACode},wpX P B (.mark n c) Q K H nx=zKf P B c Q K H nx) /\
 (∀{P:Program}{B:Nat}{Q:QT}{K:Kn}{H:AH}{nx:Nat}{c:ACode},wpX P B (.scope c) Q K H nx=wpX P B c (noGQ Q) K H nx) /\
 (∀{P:Program}{B:Nat}{Q:QT}{K:Kn}{H:AH}{nx:Nat}{l:Nat},wpX P B (.label l) Q K H nx=Q .normal K H nx) /\
 (∀{P:Program}{B:Nat}{Q:QT}{K:Kn}{H:AH}{nx:Nat}{l:Nat},wpX P B (.goto l) Q K H nx=Q (.goto l) K H nx) /\
 (∀{P:Program}{B:Nat}{Q:QT}{K:Kn}{H:AH}{nx:Nat}{l:Nat}{a b:ACode},wpX P B (.jump l a b) Q K H nx=jumpX P B l a b Q K H nx) /\
 (∀{P:Program}{B:Nat}{Q:QT}{K:Kn}{H:AH}{nx:Nat}{g:AOpd}{I:List Nat}{a b:ACode},wpX P B (.range g I a b) Q K H nx=zJg P B I (ev K.get g) a b Q K H nx) /\
 (∀{P:Program}{N:Nat}{K:Kn}{H:AH}{nx:Nat}{b:ACode}{R:QT},asgQ P N b R .normal K H nx=wpX P N b R K H nx) /\
 (∀{P:Program}{B:Nat}{Q:QT}{K:Kn}{H:AH}{nx:Nat}{a b:ACode},wpX P B (.join a b) Q K H nx=zK5 P B a b Q K H nx) /\
 (∀{P:Program}{B:Nat}{Q:QT}{K:Kn}{H:AH}{nx:Nat}{b:ACode},seqQ P B b Q .normal K H nx=wpX P B b Q K H nx) /\
 (∀{P:Program}{B:Nat}{Q:QT}{K:Kn}{H:AH}{nx:Nat}{b:ACode},seqQ P B b Q .ret K H nx=Q .ret K H nx) /\
 (∀{P:Program}{B:Nat}{Q:QT}{K:Kn}{H:AH}{nx:Nat}{b:ACode}{l:Nat},seqQ P B b Q (.goto l) K H nx=Q (.goto l) K H nx) /\
 (∀{P:Program}{B:Nat}{Q:QT}{K:Kn}{H:AH}{nx:Nat}{b:ACode}{id:Nat},seqQ P B b Q (.exit id) K H nx=Q (.exit id) K H nx) /\
 (∀{Q:QT}{K:Kn}{H:AH}{nx:Nat}{id:Nat},zg0 id Q .normal K H nx=Q .normal K H nx) /\
 (∀{Q:QT}{K:Kn}{H:AH}{nx:Nat}{id l:Nat},zg0 id Q (.goto l) K H nx=Q (.goto l) K H nx) /\
 (∀{Q:QT}{K:Kn}{H:AH}{nx:Nat},noGQ Q .normal K H nx=Q .normal K H nx) /\
 (∀{Q:QT}{K:Kn}{H:AH}{nx:Nat},noGQ Q .ret K H nx=Q .ret K H nx) /\
 (∀{Q:QT}{K:Kn}{H:AH}{nx:Nat}{id:Nat},noGQ Q (.exit id) K H nx=Q (.exit id) K H nx) /\
 (∀{Q:QT}{K:Kn}{H:AH}{nx:Nat}{id:Nat},zg0 id Q .ret K H nx=Q .ret K H nx) /\
 (∀{Q:QT}{K:Kn}{H:AH}{nx:Nat}{id M:Nat},zg0 id Q (.exit M) K H nx=bif Wa M id then Q .normal K H nx else Q (.exit M) K H nx) /\
 (∀{P:Program}{B:Nat}{Q:QT}{K:Kn}{H:AH}{nx:Nat}{t:Bool}{a b:ACode},zGN P B (.bool t) a b Q K H nx=zv5 P B t a b Q K H nx) /\
 (∀{P:Program}{B:Nat}{Q:QT}{K:Kn}{H:AH}{nx:Nat}{a b:ACode},zv5 P B true a b Q K H nx=wpX P B a Q K H nx) /\
 (∀{P:Program}{B:Nat}{Q:QT}{K:Kn}{H:AH}{nx:Nat}{a b:ACode},zv5 P B false a b Q K H nx=wpX P B b Q K H nx) /\
 (∀{K:Kn}{H:AH}{nx:Nat}{O:List ARet}{A:AV->AH->Nat->Prop},retK O A .ret K H nx=(zcb K H nx O/\A (zkZ (zaU K H nx O)) H nx)) /\
 (∀{K:Kn}{H:AH}{nx:Nat}{O:List ARet}{A:AV->AH->Nat->Prop},retK O A .normal K H nx=(zcb K H nx O/\A (zkZ (zaU K H nx O)) H nx)) /\
 (∀{P:Program}{Q:QT}{K:Kn}{H:AH}{nx:Nat}{drop:List Nat},zaV P (.ops []) drop Q K H nx=Q .normal (K.drop drop) H nx) /\
 (∀{P:Program}{Q:QT}{K:Kn}{H:AH}{nx:Nat}{drop:List Nat}{C:List AOper}{d:Option Nat}{op:AOp},zaV P (.ops (⟨d,op,none⟩::C)) drop Q K H nx=opX P op d (.ops C) drop Q K H nx) /\
 (∀{P:Program}{Q:QT}{K:Kn}{H:AH}{nx:Nat}{drop:List Nat}{C:List AOper}{d:Option Nat}{op:AOp}{t:Nat}{j:Bool},zaV P (.ops (⟨d,op,some (t,j)⟩::C)) drop Q K H nx=zi8 P (K.get t) j op d (.ops C) drop Q K H nx) /\
 (∀{P:Program}{Q:QT}{K:Kn}{H:AH}{nx:Nat}{drop:List Nat},zaV P (.tree .done) drop Q K H nx=Q .normal (K.drop drop) H nx) /\
 (∀{P:Program}{Q:QT}{K:Kn}{H:AH}{nx:Nat}{drop:List Nat},zaV P (.tree .stop) drop Q K H nx=True) /\
 (∀{P:Program}{Q:QT}{K:Kn}{H:AH}{nx:Nat}{drop:List Nat}{d:Option Nat}{op:AOp}{t:DTree},zaV P (.tree (.step ⟨d,op,none⟩ t)) drop Q K H nx=opX P op d (.tree t) drop Q K H nx) /\
 (∀{P:Program}{Q:QT}{K:Kn}{H:AH}{nx:Nat}{drop:List Nat}{d:Option Nat}{op:AOp}{t:DTree}{g:Nat}{j:Bool},zaV P (.tree (.step ⟨d,op,some (g,j)⟩ t)) drop Q K H nx=zi8 P (K.get g) j op d (.tree t) drop Q K H nx) /\
 (∀{P:Program}{Q:QT}{K:Kn}{H:AH}{nx:Nat}{drop:List Nat}{d:Option Nat}{op:AOp}{t u:DTree},zaV P (.tree (.alt ⟨d,op,none⟩ t u)) drop Q K H nx=(opX P op d (.tree t) drop Q K H nx/\zaV P (.tree u) drop Q K H nx)) /\
 (∀{P:Program}{Q:QT}{K:Kn}{H:AH}{nx:Nat}{drop:List Nat}{d:Option Nat}{op:AOp}{t u:DTree}{g:Nat}{j:Bool},zaV P (.tree (.alt ⟨d,op,some (g,j)⟩ t u)) drop Q K H nx=(zi8 P (K.get g) j op d (.tree t) drop Q K H nx/\zaV P (.tree u) drop Q K H nx)) /\
 (∀{P:Program}{Q:QT}{K:Kn}{H:AH}{nx:Nat}{drop:List Nat}{d:Option Nat}{r:Rest}{op:AOp}{b:Bool},zi8 P (.bool b) true op d r drop Q K H nx=zl6 P b op d r drop Q K H nx) /\
 (∀{P:Program}{Q:QT}{K:Kn}{H:AH}{nx:Nat}{drop:List Nat}{d:Option Nat}{r:Rest}{op:AOp}{b:Bool},zi8 P (.bool b) false op d r drop Q K H nx=zl6 P (!b) op d r drop Q K H nx) /\
 (∀{P:Program}{Q:QT}{K:Kn}{H:AH}{nx:Nat}{drop:List Nat}{d:Option Nat}{r:Rest}{op:AOp}{j:Bool},zi8 P (.tup []) j op d r drop Q K H nx=zaV P r drop Q (setO K d (.tup [])) H nx) /\
 (∀{P:Program}{Q:QT}{K:Kn}{H:AH}{nx:Nat}{drop:List Nat}{d:Option Nat}{r:Rest}{op:AOp},zl6 P true op d r drop Q K H nx=opX P op d r drop Q K H nx) /\
 (∀{P:Program}{Q:QT}{K:Kn}{H:AH}{nx:Nat}{drop:List Nat}{d:Option Nat}{r:Rest}{op:AOp},zl6 P false op d r drop Q K H nx=zaV P r drop Q (setO K d (.tup [])) H nx) /\
 (∀{P:Program}{Q:QT}{K:Kn}{drop:List Nat}{C:List AOper}{d:Option Nat}{s f:Prop}{v:AV}{D:AH}{w:Nat},resX P ⟨s,f,v,D,w⟩ d (.ops C) drop Q K=(s/\(f->zaV P (.ops C) drop Q (setO K d v) D w))) /\
 (∀{P:Program}{Q:QT}{K:Kn}{drop:List Nat}{d:Option Nat}{s f:Prop}{v:AV}{D:AH}{w:Nat}{t:DTree},resX P ⟨s,f,v,D,w⟩ d (.tree t) drop Q K=(s/\zaV P (.tree t) drop Q (setO K d v) D w)) /\
 (∀{P:Program}{Q:QT}{K:Kn}{H:AH}{nx:Nat}{drop:List Nat}{d:Option Nat}{r:Rest}{x:AOpd},opX P (.mov x) d r drop Q K H nx=zaV P r drop Q (setO K d (ev K.get x)) H nx) /\
 (∀{P:Program}{Q:QT}{K:Kn}{H:AH}{nx:Nat}{drop:List Nat}{d:Option Nat}{r:Rest}{s:Nat},opX P (.mknil s) d r drop Q K H nx=zaV P r drop Q (setO K d (.own nx 0 0 0 0)) (H.set nx 0 (.row s [] 0)) (nx+1)) /\
 (∀{P:Program}{Q:QT}{K:Kn}{H:AH}{nx:Nat}{drop:List Nat}{d:Option Nat}{r:Rest}{c x y:AOpd},opX P (.pick c x y) d r drop Q K H nx=resX P (zlu (ev K.get c) (ev K.get x) (ev K.get y) H nx) d r drop Q K) /\
 (∀{P:Program}{Q:QT}{K:Kn}{H:AH}{nx:Nat}{drop:List Nat}{d:Option Nat}{r:Rest}{g:Bool}{n:Nat}{p:AOpd},opX P (.load g n p) d r drop Q K H nx=resX P (zd5 g n (ev K.get p) H nx) d r drop Q K) /\
 (∀{P:Program}{Q:QT}{K:Kn}{H:AH}{nx:Nat}{drop:List Nat}{d:Option Nat}{r:Rest}{n:Nat}{p v:AOpd},opX P (.store n p v) d r drop Q K H nx=resX P (zfu n (ev K.get p) (ev K.get v) H nx) d r drop Q K) /\
 (∀{P:Program}{Q:QT}{K:Kn}{H:AH}{nx:Nat}{drop:List Nat}{d:Option Nat}{r:Rest}{s:Nat}{x i:AOpd},opX P (.idx s x i) d r drop Q K H nx=resX P (idxR s (ev K.get x) (ev K.get i) H nx) d r drop Q K) /\
 (∀{P:Program}{Q:QT}{K:Kn}{H:AH}{nx:Nat}{drop:List Nat}{d:Option Nat}{r:Rest}{o n:Nat}{x:AOpd},opX P (.fldaddr o n x) d r drop Q K H nx=resX P (zcO o n (ev K.get x) H nx) d r drop Q K) /\
 (∀{P:Program}{Q:QT}{K:Kn}{H:AH}{nx:Nat}{drop:List Nat}{d:Option Nat}{r:Rest}{o n:Nat}{g:Bool}{x:AOpd},opX P (.fld o n g x) d r drop Q K H nx=resX P (fldR o n g (ev K.get x) H nx) d r drop Q K) /\
 (∀{P:Program}{Q:QT}{K:Kn}{H:AH}{nx:Nat}{drop:List Nat}{d:Option Nat}{r:Rest}{x:AOpd},opX P (.len x) d r drop Q K H nx=resX P (lenR (ev K.get x) H nx) d r drop Q K) /\
 (∀{P:Program}{Q:QT}{K:Kn}{H:AH}{nx:Nat}{drop:List Nat}{d:Option Nat}{r:Rest}{x:AOpd},opX P (.slen x) d r drop Q K H nx=resX P (zte (ev K.get x) H nx) d r drop Q K) /\
 (∀{P:Program}{Q:QT}{K:Kn}{H:AH}{nx:Nat}{drop:List Nat}{d:Option Nat}{r:Rest}{o:BinOp}{x y:AOpd},opX P (.bin o x y) d r drop Q K H nx=resX P (binI o (ev K.get x) (ev K.get y) H nx) d r drop Q K) /\
 (∀{P:Program}{Q:QT}{K:Kn}{H:AH}{nx:Nat}{drop:List Nat}{d:Option Nat}{r:Rest}{n:Bool}{x y:AOpd},opX P (.eqb n x y) d r drop Q K H nx=resX P (eqB n (ev K.get x) (ev K.get y) H nx) d r drop Q K) /\
 (∀{P:Program}{Q:QT}{K:Kn}{H:AH}{nx:Nat}{drop:List Nat}{d:Option Nat}{r:Rest}{o:UnOp}{x:AOpd},opX P (.un o x) d r drop Q K H nx=resX P (unR o (ev K.get x) H nx) d r drop Q K) /\
 (∀{P:Program}{Q:QT}{K:Kn}{H:AH}{nx:Nat}{drop:List Nat}{d:Option Nat}{r:Rest}{k:IntKind}{x:AOpd},opX P (.conv k x) d r drop Q K H nx=resX P (zmt k (ev K.get x) H nx) d r drop Q K) /\
 (∀ {P:Program}{Q:QT}{K:Kn}{H:AH}{nx:Nat}{drop:List Nat}{d:Option Nat}{r:Rest}{z:List AV}{I:List (Nat×Nat×AOpd)},opX P (.build z I) d r drop Q K H nx=resX P (zg3 z (zeD K.get I) H nx) d r drop Q K) /\
 (∀ {P:Program}{Q:QT}{K:Kn}{H:AH}{nx:Nat}{drop:List Nat}{d:Option Nat}{r:Rest}{s l:Nat}{z:List AV}{I:List (Nat×AOpd)},opX P (.buildSl s l z I) d r drop Q K H nx=resX P (zcM s l z (zkD K.get I) H nx) d r drop Q K) /\
 (∀{P:Program}{Q:QT}{K:Kn}{H:AH}{nx:Nat}{drop:List Nat}{d:Option Nat}{r:Rest}{x:AOpd},opX P (.box x) d r drop Q K H nx=resX P (boxR (ev K.get x) H nx) d r drop Q K) /\
 (∀{P:Program}{Q:QT}{K:Kn}{H:AH}{nx:Nat}{drop:List Nat}{d:Option Nat}{r:Rest}{x:AOpd},opX P (.rbox x) d r drop Q K H nx=resX P (zoC (ev K.get x) H nx) d r drop Q K) /\
 (∀ {P:Program}{Q:QT}{K:Kn}{H:AH}{nx:Nat}{drop:List Nat}{d:Option Nat}{r:Rest}{s l:Nat}{z:List AV}{I:List (Nat×AOpd)},opX P (.rbuildSl s l z I) d r drop Q K H nx=resX P (zbu s l z (zkD K.get I) H nx) d r drop Q K) /\
 (∀{P:Program}{Q:QT}{K:Kn}{H:AH}{nx:Nat}{drop:List Nat}{d:Option Nat}{r:Rest}{x:AOpd},opX P (.mnext x) d r drop Q K H nx=nextX P (ev K.get x) d r drop Q K H nx) /\
 (∀{P:Program}{Q:QT}{K:Kn}{H:AH}{nx:Nat}{drop:List Nat}{d:Option Nat}{r:Rest}{s b:Nat}{x y:AOpd},opX P (.append2 s b x y) d r drop Q K H nx=app2X P s b (ev K.get x) (ev K.get y) d r drop Q K H nx) /\
 (∀{P:Program}{Q:QT}{K:Kn}{H:AH}{nx:Nat}{drop:List Nat}{d:Option Nat}{r:Rest}{z:List AV},opX P (.alloc z) d r drop Q K H nx=resX P (zjz z H nx) d r drop Q K) /\
 (∀{P:Program}{Q:QT}{K:Kn}{H:AH}{nx:Nat}{drop:List Nat}{d:Option Nat}{r:Rest}{s b:Nat}{z:List AV}{l c:AOpd},opX P (.mksl s b z l c) d r drop Q K H nx=resX P (zlz s b z (ev K.get l) (ev K.get c) H nx) d r drop Q K) /\
 (∀{P:Program}{Q:QT}{K:Kn}{H:AH}{nx:Nat}{drop:List Nat}{d:Option Nat}{r:Rest}{s:Nat}{x:AOpd}{l h:Option AOpd},opX P (.slice s x l h) d r drop Q K H nx=resX P (zfY s (ev K.get x) (evO K.get l) (evO K.get h) H nx) d r drop Q K) /\
 (∀{P:Program}{Q:QT}{K:Kn}{H:AH}{nx:Nat}{drop:List Nat}{d:Option Nat}{r:Rest}{x:AOpd},opX P (.cut x) d r drop Q K H nx=resX P (cutR (ev K.get x) H nx) d r drop Q K) /\
 (∀{P:Program}{Q:QT}{K:Kn}{H:AH}{nx:Nat}{drop:List Nat}{d:Option Nat}{r:Rest}{f:Fn}{V:List AOpd},opX P (.mkfn f V) d r drop Q K H nx=zaV P r drop Q (setO K d (.fn f (evs K.get V))) H nx) /\
 (∀{P:Program}{Q:QT}{K:Kn}{H:AH}{nx:Nat}{drop:List Nat}{d:Option Nat}{r:Rest}{s b:Nat}{x y:AOpd},opX P (.append s b x y) d r drop Q K H nx=resX P (ze8 s b (ev K.get x) (ev K.get y) H nx) d r drop Q K) /\
 (∀{P:Program}{Q:QT}{K:Kn}{H:AH}{nx:Nat}{drop:List Nat}{d:Option Nat}{r:Rest}{s:Nat}{z:List AV}{x:AOpd},opX P (.clear s z x) d r drop Q K H nx=resX P (ziF s z (ev K.get x) H nx) d r drop Q K) /\
 (∀{P:Program}{Q:QT}{K:Kn}{H:AH}{nx:Nat}{drop:List Nat}{d:Option Nat}{r:Rest}{i:Nat}{x:AOpd},opX P (.ext i x) d r drop Q K H nx=resX P (extR i (ev K.get x) H nx) d r drop Q K) /\
 (∀{P:Program}{Q:QT}{K:Kn}{H:AH}{nx:Nat}{drop:List Nat}{d:Option Nat}{r:Rest}{n p:Bool}{x:AOpd},opX P (.isnil n p x) d r drop Q K H nx=nilX P (nilB p (ev K.get x)) n d r drop Q K H nx) /\
 (∀{P:Program}{Q:QT}{K:Kn}{H:AH}{nx:Nat}{drop:List Nat}{d:Option Nat}{r:Rest}{f:FuncId}{J:List AOpd},opX P (.call f J) d r drop Q K H nx=zCE P f (evs K.get J) H nx (zvJ P d r drop Q K)) /\
 (∀{P:Program}{Q:QT}{K:Kn}{H:AH}{nx:Nat}{drop:List Nat}{d:Option Nat}{r:Rest}{f:FuncId}{J:List AOpd},opX P (.callq f J) d r drop Q K H nx=zDL P f (evs K.get J) d r drop Q K H nx) /\
 (∀{P:Program}{Q:QT}{K:Kn}{H:AH}{nx:Nat}{drop:List Nat}{d:Option Nat}{r:Rest}{x:XOp}{J:List AOpd},opX P (.xop x J) d r drop Q K H nx=resX P (xopR x (evs K.get J) H nx) d r drop Q K) /\
 (∀{P:Program}{Q:QT}{K:Kn}{H:AH}{nx:Nat}{drop:List Nat}{d:Option Nat}{r:Rest}{x:AOpd}{J:List AOpd},opX P (.callv x J) d r drop Q K H nx=zop P (ev K.get x) (evs K.get J) H nx (zvJ P d r drop Q K)) /\
 (∀{P:Program}{H:AH}{nx:Nat}{f:FuncId}{L args:List AV}{k:AV->AH->Nat->Prop},zop P (.fn (.func f) L) args H nx k=(zfd P f=true/\zCE P f (args++L) H nx k)) /\
 (∀{P:Program}{Q:QT}{K:Kn}{H:AH}{nx:Nat}{drop:List Nat}{d:Option Nat}{r:Rest}{b n:Bool},nilX P (some (some b)) n d r drop Q K H nx=zaV P r drop Q (setO K d (.bool (b != n))) H nx) /\
 (∀{P:Program}{Q:QT}{K:Kn}{H:AH}{nx:Nat}{drop:List Nat}{d:Option Nat}{r:Rest}{n:Bool},nilX P (some none) n d r drop Q K H nx=∀b,zaV P r drop Q (setO K d (.bool b)) H nx) /\
 (∀{P:Program}{Q:QT}{K:Kn}{drop:List Nat}{C:List AOper}{d:Option Nat}{v:AV}{D:AH}{w:Nat},zvJ P d (.ops C) drop Q K v D w=(v.wf->zaV P (.ops C) drop Q (setO K d v) D w)) /\
 (∀{P:Program}{Q:QT}{K:Kn}{drop:List Nat}{d:Option Nat}{v:AV}{D:AH}{w:Nat}{t:DTree},zvJ P d (.tree t) drop Q K v D w=zaV P (.tree t) drop Q (setO K d v) D w) /\
 (∀{B:Nat}{Q:QT}{K:Kn}{H:AH}{nx:Nat}{α:Type}{S:α->Kn×AH}{N:Nat}{e:α->Prop}{μ:α->Nat}{a:α},zsH B S N e μ a Q .normal K H nx=∃m,e m/\μ m<μ a/\Ent B K H nx (S m).1 (S m).2 N) /\
 (∀{B:Nat}{Q:QT}{K:Kn}{H:AH}{nx:Nat}{α:Type}{S:α->Kn×AH}{N:Nat}{e:α->Prop}{μ:α->Nat}{a:α}{l:Nat},zsH B S N e μ a Q (.goto l) K H nx=Q (.goto l) K H nx) /\
 (∀{B:Nat}{Q:QT}{K:Kn}{H:AH}{nx:Nat}{α:Type}{S:α->Kn×AH}{N:Nat}{e:α->Prop}{μ:α->Nat}{a:α},zsH B S N e μ a Q .ret K H nx=Q .ret K H nx) /\
 (∀{B:Nat}{Q:QT}{K:Kn}{H:AH}{nx:Nat}{α:Type}{S:α->Kn×AH}{N:Nat}{e:α->Prop}{μ:α->Nat}{a:α}{id:Nat},zsH B S N e μ a Q (.exit id) K H nx=Q (.exit id) K H nx) /\
 (∀{B:Nat}{Q:QT}{K:Kn}{H:AH}{nx:Nat}{α:Type}{S:α->Kn×AH}{N:Nat}{e:α->Prop},zue B S N e Q .normal K H nx=∃m,e m/\Ent B K H nx (S m).1 (S m).2 N) /\
 (∀{B:Nat}{Q:QT}{K:Kn}{H:AH}{nx:Nat}{α:Type}{S:α->Kn×AH}{N:Nat}{e:α->Prop}{l:Nat},zue B S N e Q (.goto l) K H nx=Q (.goto l) K H nx) /\
 (∀{B:Nat}{Q:QT}{K:Kn}{H:AH}{nx:Nat}{α:Type}{S:α->Kn×AH}{N:Nat}{e:α->Prop},zue B S N e Q .ret K H nx=Q .ret K H nx) /\
 (∀{B:Nat}{Q:QT}{K:Kn}{H:AH}{nx:Nat}{α:Type}{S:α->Kn×AH}{N:Nat}{e:α->Prop}{id:Nat},zue B S N e Q (.exit id) K H nx=Q (.exit id) K H nx) /\
 (∀{σ α:Type}{B:Nat}{F:Kn}{S:α->AH}{N:Nat}{e:α->σ->Prop}{q:α->AExit->Prop}{T:σ}{K:Kn}{H:AH}{nx:Nat},rngQ B F S N e q T .normal K H nx=∃m,e m T/\Ent B F H nx F (S m) N) /\
 (∀{σ α:Type}{B:Nat}{F:Kn}{S:α->AH}{N:Nat}{e:α->σ->Prop}{q:α->AExit->Prop}{T:σ}{K:Kn}{H:AH}{nx:Nat},rngQ B F S N e q T .ret K H nx=∃m,q m .ret/\Ent B F H nx F (S m) N) /\
 (∀{σ α:Type}{B:Nat}{F:Kn}{S:α->AH}{N:Nat}{e:α->σ->Prop}{q:α->AExit->Prop}{T:σ}{K:Kn}{H:AH}{nx:Nat}{id:Nat},rngQ B F S N e q T (.exit id) K H nx=∃m,q m (.exit id)/\Ent B F H nx F (S m) N) /\
 (∀{B:Nat}{Q:QT}{K:Kn}{H:AH}{nx:Nat}{l U:Nat}{α:Type}{S:α->Kn×AH}{N:Nat}{e:α->Prop},zxB B l S N e Q (.goto U) K H nx=(U=l/\∃m,e m/\Ent B K H nx (S m).1 (S m).2 N)) /\
 (∀{B:Nat}{Q:QT}{K:Kn}{H:AH}{nx:Nat}{l:Nat}{α:Type}{S:α->Kn×AH}{N:Nat}{e:α->Prop},zxB B l S N e Q .normal K H nx=Q .normal K H nx) /\
 (∀{B:Nat}{Q:QT}{K:Kn}{H:AH}{nx:Nat}{l:Nat}{α:Type}{S:α->Kn×AH}{N:Nat}{e:α->Prop},zxB B l S N e Q .ret K H nx=Q .ret K H nx) /\
 (∀{B:Nat}{Q:QT}{K:Kn}{H:AH}{nx:Nat}{l id:Nat}{α:Type}{S:α->Kn×AH}{N:Nat}{e:α->Prop},zxB B l S N e Q (.exit id) K H nx=Q (.exit id) K H nx) /\
 (∀{B:Nat}{Q:QT}{K:Kn}{H:AH}{nx:Nat}{l U:Nat}{α:Type}{S:α->Kn×AH}{N:Nat}{e:α->Prop}{μ:α->Nat}{a:α},zxz B l S N e μ a Q (.goto U) K H nx=(U=l/\∃m,e m/\μ m<μ a/\Ent B K H nx (S m).1 (S m).2 N)) /\
 (∀{B:Nat}{Q:QT}{K:Kn}{H:AH}{nx:Nat}{l:Nat}{α:Type}{S:α->Kn×AH}{N:Nat}{e:α->Prop}{μ:α->Nat}{a:α},zxz B l S N e μ a Q .normal K H nx=Q .normal K H nx) /\
 (∀{B:Nat}{Q:QT}{K:Kn}{H:AH}{nx:Nat}{l:Nat}{α:Type}{S:α->Kn×AH}{N:Nat}{e:α->Prop}{μ:α->Nat}{a:α},zxz B l S N e μ a Q .ret K H nx=Q .ret K H nx) /\
 (∀{B:Nat}{Q:QT}{K:Kn}{H:AH}{nx:Nat}{l id:Nat}{α:Type}{S:α->Kn×AH}{N:Nat}{e:α->Prop}{μ:α->Nat}{a:α},zxz B l S N e μ a Q (.exit id) K H nx=Q (.exit id) K H nx) :=
 ⟨@zHg,@zCz,@zIr,@zKm,@zIT,@zDJ,@zHk,@zG0,@zKy,@zI2,@zEX,@zDQ,@zIS,@zHV,@zE3,(by intros;rfl),@zHy,@zzk,@zHH,@zFl,@zEk,@zws,@zAn,@zAt,@zIt,@zFB,@zDh,@zy4,@zC7,@zCQ,@zzS,@zJa,@zAf,@zD2,@zCt,@zzr,@zC1,@zDp,@zDs,@zzn,@zFg,@zC6,@zCw,@zGf,@zzb,@zzu,@zyg,@zHb,@zFD,@zKo,@zEF,@zIk,@zGW,@zE6,@zKu,@zAu,@zLf,@zJS,@zGT,@zKB,@zJC,@opX_un,@zIM,@zFx,@zzw,@zLg,@zH2,@zxw,@zGG,@zyT,@zER,@zIy,@zGJ,@zJ1,@zGY,@zCg,@zDN,@zKc,@zDE,@zI9,@zEt,@zKt,@zEQ,@ziU,@zJG,@zHA,@zDX,@zDv,@zyn,@zCY,@zED,@zCn,@zyB,@zDo,@zGu,@zCm,(by intros;rfl),(by intros;rfl),(by intros;rfl),@zB4,@zxE,@zFY,@zCa,@zCI,@zyv,@zGA,@zDn⟩
theorem evK :
 (∀{ρ:Nat->AV}{n:Nat},ev ρ (.t n)=ρ n) /\
 (∀{ρ:Nat->AV}{v:AV},ev ρ (.c v)=v) /\
 (∀{ρ:Nat->AV},evs ρ []=[]) /\
 (∀{ρ:Nat->AV}{x:AOpd}{l:List AOpd},evs ρ (x::l)=ev ρ x::evs ρ l) /\
 (∀{ρ:Nat->AV},zeD ρ []=[]) /\
 (∀ {ρ:Nat->AV}{a b:Nat}{x:AOpd}{l:List (Nat×Nat×AOpd)},zeD ρ ((a,b,x)::l)=(a,b,ev ρ x)::zeD ρ l) /\
 (∀{ρ:Nat->AV},zkD ρ []=[]) /\
 (∀ {ρ:Nat->AV}{a:Nat}{x:AOpd}{l:List (Nat×AOpd)},zkD ρ ((a,x)::l)=(a,ev ρ x)::zkD ρ l) /\
 (∀{ρ:Nat->AV},evO ρ none=none) /\
 (∀{ρ:Nat->AV}{x:AOpd},evO ρ (some x)=some (ev ρ x)) /\
 (∀{K:Kn}{v:AV},setO K none v=K) /\
 (∀{K:Kn}{d:Nat}{v:AV},setO K (some d) v=K.set d v) /\
 (∀{i:Nat},Kn.get [] i=.undef) /\
 (∀{j:Nat}{v:AV}{t:Kn}{i:Nat},Kn.get ((j,v)::t) i=bif (j == i)then v else Kn.get t i) /\
 (∀{i:Nat}{v:AV},Xj [] i v=[(i,v)]) /\
 (∀{j:Nat}{u v:AV}{t:Kn}{i:Nat},Xj ((j,u)::t) i v=bif (j == i)then(i,v)::t else(j,u)::Xj t i v) /\
 (∀{l:List Nat},Xi [] l=[]) /\
 (∀{j:Nat}{v:AV}{t:Kn}{l:List Nat},Xi ((j,v)::t) l=bif memN l j then Xi t l else(j,v)::Xi t l) /\
 (∀{i:Nat},memN [] i=false) /\
 (∀{j:Nat}{t:List Nat}{i:Nat},memN (j::t) i=bif (j == i)then true else memN t i) /\
 (∀{i:Nat},zmR i []=[]) /\
 (∀{i:Nat}{a:AV}{r:List AV},zmR i (a::r)=(i,a)::zmR (i+1) r) /\
 (∀{K:Kn}{H:AH}{nx:Nat},zcb K H nx []=True) /\
 (∀{K:Kn}{H:AH}{nx t:Nat}{r:List ARet},zcb K H nx (.tmp t::r)=zcb K H nx r) /\
 (∀{K:Kn}{H:AH}{nx t n:Nat}{g:Bool}{r:List ARet},zcb K H nx (.cell t g n::r)=((zd5 g n (K.get t) H nx).side/\zcb K H nx r)) /\
 (∀{K:Kn}{H:AH}{nx:Nat},zaU K H nx []=[]) /\
 (∀{K:Kn}{H:AH}{nx t:Nat}{r:List ARet},zaU K H nx (.tmp t::r)=K.get t::zaU K H nx r) /\
 (∀{K:Kn}{H:AH}{nx t n:Nat}{g:Bool}{r:List ARet},zaU K H nx (.cell t g n::r)=(zd5 g n (K.get t) H nx).v::zaU K H nx r) /\
 (∀{v:AV},zkZ [v]=v) /\
 (zkZ []=.tup []) /\
 (∀{u v:AV}{l:List AV},zkZ (u::v::l)=.tup (u::v::l)) /\
 (∀{r:Nat},Xa [] r=none) /\
 (∀{j:Nat}{o:AObj}{t:AH}{r:Nat},Xa ((j,o)::t) r=bif (j == r)then some o else Xa t r) /\
 (∀{r:Nat}{o:AObj},Xk [] r o=[(r,o)]) /\
 (∀{j:Nat}{u o:AObj}{t:AH}{r:Nat},Xk ((j,u)::t) r o=bif (j == r)then(r,o)::t else(j,u)::Xk t r o) /\
 (∀{H:AH}{r q:Nat},Xh H r q=(Xa H r).bind (·.part q)) /\
 (∀{H:AH}{r q:Nat}{o:AObj},Xm H r q o=zn8 (Xa H r) H r q o) /\
 (∀{u:AObj}{H:AH}{r q:Nat}{o:AObj},zn8 (some u) H r q o=H.put r (u.upd q o)) /\
 (∀{H:AH}{r q:Nat}{o:AObj},zn8 none H r q o=H.put r o) /\
 (∀ {k g:Nat}{e:List (List AV)},Xg (.row k e g) 0=some (.row k e g)) /\
 (∀ {k i:Nat}{h:List (List (List AV)×Nat)},Xg (.fam k h) (i+1)=(h[i]?).map λp=>.row k p.1 p.2) /\
 (∀ {k g:Nat}{e:List (List AV)}{o:AObj}{q:Nat},Xl (.row k e g) q o=o) /\
 (∀ {k m i g:Nat}{h:List (List (List AV)×Nat)}{e:List (List AV)},Xl (.fam k h) (i+1) (.row m e g)=.fam k (h.set i (e,g))) /\
 (∀{o:AObj}{f:AObj->Option AObj},(some o).bind f=f o) :=
 ⟨@ev_t,@ev_c,@zJF,@zIv,@zyU,@zyD,@zF7,@zDr,@zHG,@zHx,@zEo,@zF9,@zG1,@zD0,@zHu,@zFe,@zFW,@zCS,@zIa,@zFA,@zEK,@zCi,@zz0,@zy9,@zxv,@zAp,@zzi,@zyd,@zDz,zCo,@zGb,@zGX,@zFO,@zJL,@zHU,@zHN,@zHp,@zAd,@zzR,@zHo,@zHW,@zJ6,@zKI,@zCr⟩
theorem evB:(∀{α:Type}{a b:α},(bif true then a else b)=a)/\(∀{α:Type}{a b:α},(bif false then a else b)=b)/\(∀{p:Prop},(True/\p)=p)/\(∀{p:Prop},(p/\True)=p)/\(∀{p:Prop},(True->p)=p) :=
 ⟨rfl,rfl,by simp,by simp,by simp⟩
theorem zrC{n}(b : -9223372036854775808<=n)(c:n<=9223372036854775807):IntKind.i64.wrap n=n:=IntWalk.i64_in n ⟨b,c⟩
def encL{α:Type}(b:Nat)(f:α->List AV)(l:List α):AV:=.sl b l.length (λi j=>((l.map f).getD i []).getD j .undef)
def encP(b:Nat)(c:List AV):AV:=.iptr b (λj=>c.getD j .undef)
theorem zf0{α β:Type}{f:α->β}{l:List α}{i:Nat}{a:α}{d:β}(h:l[i]?=some a):(l.map f).getD i d=f a:=by simp[Wj,h]
section
variable {α:Type}{sz:Nat}{f:α->List AV}{l:List α}{H:AH}{nx:Nat}
theorem zBc:∀(n k:Nat)(c:List AV),k+n=c.length->tab (λj=>c.getD j .undef) n k=c.drop k
 |0,k,c,h=>by simp[tab,List.drop_of_length_le (show c.length<=k by omega)]
 |
  n+1,k,c,h=>by
  simp only[tab];rw[zBc n (k+1) c (by omega),List.drop_eq_getElem_cons (show k<c.length by omega)];simp[Wj,Wd (show k<c.length by omega)]
theorem za7(d:∀a∈l,(f a).length=sz):zcq sz (encL sz f l) H=some (l.map f):=by
 unfold zcq encL;simp only[zbP,cond_true];congr 1;apply Wz;intro i;by_cases b:i<l.length
 .have c:l[i]∈l:=Wv b;simp only[Wg,WA b,Ww,Wd b];have e:(List.map f l).getD i []=f l[i]:=zf0 (Wd b);rw[e,zBc sz 0 (f l[i]) (by rw[d _ c];omega)];rfl
 .simp[List.getElem?_eq_none (show l.length<=i by omega),b]
theorem zto:nilB false (encL sz f l)=some (bif Wa l.length 0 then none else some false):=rfl
end
def qRo(l:List Nat):Nat->List Nat:=λid=>bif Wa id 999999 then l else Wf 150
def qGet:List (Nat×List Nat)->Nat->List Nat
 |[],_=>Wf 150
 |(j,l)::t,i=>bif Wa j i then l else qGet t i
def qRoL(l:List Nat)(x:List (Nat×List Nat)):Nat->List Nat:=λid=>bif Wa id 999999 then l else qGet x id
def qAll:Nat->List Nat:=qRo []
def za(l:List Int):AV:=encL 1 (λn=>[.int .i64 n]) l
def zb(l:List Nat):AV:=encL 1 (λ(n:Nat)=>[.int .i64 (n:Int)]) l
def zcL(l:List Bool):AV:=encL 1 (λb=>[.bool b]) l
theorem zk3{α:Type}{H d:AH}{σ:Nat->Nat->Option (Nat×Nat×Nat)}{D:Nat->Nat->Prop}{t:Bool}{b r q g:Nat}{f e:α->List AV}{l:List α}(k:D r q)(n:H.get r q=some (.row b (l.map f) g))(m:l.length<=big)(h:∀a∈l,∀j,j<b->Vw H d σ D false ((f a).getD j .undef) ((e a).getD j .undef)):Vw H d σ D t (.own r q g 0 l.length) (encL b e l):=by
 refine .frz t r q g 0 l.length b (l.map f) _ k n m (by simp) (λi j c o=>?_);rw[Nat.zero_add,zf0 (Wd c),zf0 (Wd c)];exact h _ (Wv c) j o
theorem zbz{H H2}{σ}{D}{t}{r q g}{l}(b:D r q)(d:H.get r q=some (.row 1 (l.map λn=>[.int .i64 n]) g))(c:l.length<=big):
  Vw H H2 σ D t (.own r q g 0 l.length) (za l):=by
 refine zk3 b d c (λa _ j e=>?_);obtain rfl:j=0:=by omega
 exact .int _ _ _
theorem zbX{H H2}{σ}{D}{t}{r q g}{l}(b:D r q)(d:H.get r q=some (.row 1 (l.map λ(n:Nat)=>[.int .i64 (n:Int)]) g))(c:l.length<=big):
  Vw H H2 σ D t (.own r q g 0 l.length) (zb l):=by
 refine zk3 b d c (λa _ j e=>?_);obtain rfl:j=0:=by omega
 exact .int _ _ _
theorem zqc{H H2}{σ}{D}{t}{r q g}{l}(c:D r q)(e:H.get r q=some (.row 1 (l.map λb=>[.bool b]) g))(d:l.length<=big):
  Vw H H2 σ D t (.own r q g 0 l.length) (zcL l):=by
 refine zk3 c e d (λa _ j h=>?_);obtain rfl:j=0:=by omega
 exact .bool _ _
theorem zf1{α:Type}{H b:AH}{σ:Nat->Nat->Option (Nat×Nat×Nat)}{D:Nat->Nat->Prop}{t:Bool}{c:Nat}{f:α->List AV}:Vw H b σ D t .nilsl (encL c f []):=.nil0 _ _ _
theorem evL :
 (∀{c:Nat->AV}{k:Nat},tab c 0 k=[]) /\
 (∀{c:Nat->AV}{n k:Nat},tab c (n+1) k=c k::tab c n (k+1)) /\
 (∀{α:Type}{a:α}{l:List α},(a::l).length=l.length+1) /\
 (∀{α:Type},([]:List α).length=0) /\
 (∀{α:Type}{a b:α}{l:List α},(a::l).set 0 b=b::l) /\
 (∀{α:Type}{a b:α}{l:List α}{n:Nat},(a::l).set (n+1) b=a::l.set n b) /\
 (∀{α:Type}{a d:α}{l:List α},(a::l).getD 0 d=a) /\
 (∀{α:Type}{a d:α}{l:List α}{n:Nat},(a::l).getD (n+1) d=l.getD n d) /\
 (∀{h:List AV},Xd (.agg h)=h) /\
 (∀{k:IntKind}{n:Int},Xd (.int k n)=[.int k n]) /\
 (∀{b:Bool},Xd (.bool b)=[.bool b]) /\
 (∀{e n:Nat}{f:Nat->Nat->AV},Xd (.sl e n f)=[.sl e n f]) /\
 (∀{α:Type}{e:Nat}{f:α->List AV}{l:List α},Xd (encL e f l)=[encL e f l]) /\
 (∀{r q g off n:Nat},Xd (.own r q g off n)=[.own r q g off n]) /\
 (∀{r q g i f:Nat},Xd (.ptr r q g i f)=[.ptr r q g i f]) /\
 (∀{f:Fn}{h:List AV},Xd (.fn f h)=[.fn f h]) /\
 (Xd .nilsl=[.nilsl])/\(Xd .nilfn=[.nilfn])/\(Xd .nilp=[.nilp]) /\
 (∀{s:ByteArray},Xd (.str s)=[.str s]) /\
 (∀{h:List AV},Xe (.agg h)=true) /\
 (∀{k:IntKind}{n:Int},Xe (.int k n)=true) /\
 (∀{b:Bool},Xe (.bool b)=true) /\
 (∀{e n:Nat}{f:Nat->Nat->AV},Xe (.sl e n f)=true) /\
 (∀{α:Type}{e:Nat}{f:α->List AV}{l:List α},Xe (encL e f l)=true) /\
 (∀{r q g off n:Nat},Xe (.own r q g off n)=true) /\
 (∀{r q g i f:Nat},Xe (.ptr r q g i f)=true) /\
 (∀{f:Fn}{h:List AV},Xe (.fn f h)=true) /\
 (Xe .nilsl=true)/\(Xe .nilfn=true)/\(Xe .nilp=true) /\
 (∀{s:ByteArray},Xe (.str s)=true) /\
 (∀{k:IntKind}{n:Int},Xb (.int k n)=InR k n) /\
 (∀{b:Bool},Xb (.bool b)=True) /\
 (∀{h:List AV},Xb (.agg h)=True) /\
 (∀{h:List AV},Xb (.tup h)=True) /\
 (∀{e n:Nat}{f:Nat->Nat->AV},Xb (.sl e n f)=(n<=big)) /\
 (∀{α:Type}{e:Nat}{f:α->List AV}{l:List α},Xb (encL e f l)=(l.length<=big)) /\
 (∀{r q g off n:Nat},Xb (.own r q g off n)=True) /\
 (∀{r q g i f:Nat},Xb (.ptr r q g i f)=True) /\
 (∀{n:Nat}{c:Nat->AV},Xb (.iptr n c)=True) /\
 (∀{f:Fn}{h:List AV},Xb (.fn f h)=True) /\
 (Xb .nilsl=True)/\(Xb .nilfn=True)/\(Xb .nilp=True)/\(Xb .undef=True) /\
 (∀{s:ByteArray},Xb (.str s)=(s.size<=big)) /\
 (∀{n:Nat},Wa n n=true) /\
 (∀{a b:Nat},Wa a b=(a == b)) /\
 (∀{b:Bool},(b&&b)=b)/\(∀{b:Bool},(b&&true)=b)/\(∀{b:Bool},(true&&b)=b)/\(∀{b:Bool},(b&&false)=false)/\(∀{b:Bool},(false&&b)=false) /\
 (∀{n:Nat},0+n=n) /\
 (∀{n:Nat},((n:Int).toNat)=n) /\
 (∀{n:Nat},(0<n+1)=True) /\
 (∀{n:Nat},(n<=n)=True) /\
 (∀{α:Type}{a:α},(a=a)=True) /\
 (∀{α:Type}{l:List α},[]++l=l)/\(∀{α:Type}{l:List α},l++[]=l)/\(∀{α:Type}{a:α}{l m:List α},(a::l)++m=a::(l++m)) /\
 (∀{α:Type}{l:List α},l.drop 0=l)/\(∀{α:Type}{a:α}{l:List α}{n:Nat},(a::l).drop (n+1)=l.drop n) /\
 (∀{α:Type}{l:List α},l.take 0=[])/\(∀{α:Type}{a:α}{l:List α}{n:Nat},(a::l).take (n+1)=a::l.take n) /\
 (∀{α:Type}{a:α},Wc 0 a=[])/\(∀{α:Type}{a:α}{n:Nat},Wc (n+1) a=a::Wc n a) /\
 (∀ {j:List (List AV)},zc7 j []=j)/\(∀ {j:List (List AV)}{i:Nat}{v:AV}{r:List (Nat×AV)},zc7 j ((i,v)::r)=zc7 (j.set i v.cells) r) /\
 (∀{n e:Nat},znJ n e []=True)/\(∀ {n e i:Nat}{v:AV}{r:List (Nat×AV)},znJ n e ((i,v)::r)=((v.solid=true/\v.cells.length=e/\i<n)/\znJ n e r)) /\
 (∀{h:List AV},zC3 h []=h)/\(∀ {h:List AV}{off size:Nat}{v:AV}{r:List (Nat×Nat×AV)},zC3 h ((off,size,v)::r)=zC3 (splice h off v.cells) r) /\
 (∀{k:IntKind}{n:Int},Xf (.int k n)=true)/\(∀{b:Bool},Xf (.bool b)=true)/\(∀{s:ByteArray},Xf (.str s)=true)/\(Xf .undef=true)/\(Xf .nilsl=true)/\(Xf .nilp=true)/\(Xf .nilfn=true)/\(Xf .cut=true) /\
 (∀{e n:Nat}{f:Nat->Nat->AV},Xf (.sl e n f)=true)/\(∀{n:Nat}{c:Nat->AV},Xf (.iptr n c)=true)/\(∀{α:Type}{e:Nat}{f:α->List AV}{l:List α},Xf (encL e f l)=true) /\
 (zz []=true)/\(∀{v:AV}{r:List AV},zz (v::r)=(v.flat0&&zz r)) /\
 (∀{n:Nat},ztJ n []=True)/\(∀ {n off size:Nat}{v:AV}{r:List (Nat×Nat×AV)},ztJ n ((off,size,v)::r)=((v.solid=true/\v.cells.length=size/\off+size<=n)/\ztJ n r)):=by
 (repeat' apply And.intro)<;>intros<;>first|rfl|exact Nat.beq_refl _|exact zgX _ _|simp
def AV.flat:AV->Bool
 |.agg l=>l.all Xf
 |.tup l=>l.all Xf
 |a=>a.flat0
theorem zl{H H2}{σ}{D}{t}{a}(h:a.flat0=true):Vw H H2 σ D t a a:=by cases a<;>first|(cases h;done)|constructor
theorem zV{H H2}{σ}{D}{t}{a}(h:a.flat=true):Vw H H2 σ D t a a:=by
 have key:∀(l:List AV),l.all Xf=true->∀(i:Nat)(x y:AV),l[i]?=some x->l[i]?=some y->Vw H H2 σ D t x y:=λl d i x y b c=>by rw[b]at c;cases c;exact zl (Wr.1 d x (Wk b))
 cases a with
 |agg l=>exact .agg _ _ _ rfl (key l h)
 |tup l=>exact .tup _ _ _ rfl (key l h)
 |_=>exact zl h
theorem zxK{H}{D}:∀{l:List AV},l.all AV.flat=true->Lend H D l l
 |[],_=>.nil
 |
  a::l,h=>by
  simp only[List.all_cons,Wh]at h;exact .cons (zV h.1) (zxK h.2)
theorem zc{P}{f}{l}{r}{H}{nx}(h:zn P f l (·=r))(b:l.all AV.flat=true):zdx P f l H nx r :=
 zaW h (zxK (D:=noR) b) (.inr λ_ _ h=>h)
structure Stm where
 op:Int
 var:Int
 width:Int
 next:Int
 els:Int
 tgt:Int
 e:AV
 cases:List Int
def Stm.cells(s:Stm):List AV:=[.int .i64 s.op,.int .i64 s.var,.int .i64 s.width,.int .i64 s.next,.int .i64 s.els,.int .u32 s.tgt,s.e,za s.cases]
structure Blk where
 addr:Int
 stmts:List Stm
def Blk.cells(b:Blk):List AV:=[.int .u32 b.addr,encL 8 Stm.cells b.stmts]
structure Gr where
 addr:Int
 blocks:List Blk
def Gr.cells(g:Gr):List AV:=[.int .u32 g.addr,encL 2 Blk.cells g.blocks]
theorem Blk.two(b:Blk):[b.cells.getD 0 .undef,b.cells.getD 1 .undef]=b.cells:=rfl
theorem Gr.two(g:Gr):[g.cells.getD 0 .undef,g.cells.getD 1 .undef]=g.cells:=rfl
def Blk.targets(b:Blk):List Int:=match b.stmts.getLast? with
 |none=>[]
 |some s=>if s.op=6 then[s.next]else if s.op=7 then[s.next,s.els]else if s.op=8 then s.cases else[]
def ldRow(agg:Bool)(n i f g:Nat)(o:Option AObj)(H:AH)(nx:Nat):ORes:=match o with
 |
  some (.row c b d)=>
  let v:=bif agg then .agg (bif Wa f 0&&Wa n c then b.getD i []else sub (b.getD i []) f n)else(b.getD i []).getD f .undef
  ⟨g=d/\i<b.length/\f+n<=c,v.wf,v,H,nx⟩
 |_=>bad H nx
def stRow(n r q i f g:Nat)(v:AV)(o:Option AObj)(H:AH)(nx:Nat):ORes:=match o with
 |
  some (.row c b d)=>
  ⟨g=d/\i<b.length/\f+n<=c/\v.solid=true/\v.cells.length=n,True,.undef,
    H.set r q (.row c (b.set i (bif Wa f 0&&Wa n c then v.cells else splice (b.getD i []) f v.cells)) d),nx⟩
 |_=>bad H nx
def ixRow(d r q g off n:Nat)(k:Int)(o:Option AObj)(H:AH)(nx:Nat):ORes:=match o with
 |some (.row b _ c)=>⟨b=d/\g=c/\0<=k/\k<n,True,.ptr r q g (off+k.toNat) 0,H,nx⟩
 |_=>bad H nx
def zFy(e r q g off n:Nat)(a b:Int)(o:Option AObj)(H:AH)(nx:Nat):ORes:=match o with
 |some (.row c _ d)=>⟨c=e/\g=d/\0<=a/\a<=b/\b<=n,True,.own r q g (off+a.toNat) (b-a).toNat,H,nx⟩
 |_=>bad H nx
def clRow(e r q g off n:Nat)(zero:List AV)(o:Option AObj)(H:AH)(nx:Nat):ORes:=match o with
 |some (.row c b d)=>⟨c=e/\g=d/\off+n<=b.length,True,.undef,H.set r q (.row e (b.take off++Wc n zero++b.drop (off+n)) d),nx⟩
 |_=>bad H nx
def elRow(e g off n:Nat)(o:Option AObj):Option (List (List AV)):=match o with
 |some (.row c b d)=>bif Wa c e&&Wa g d then some ((b.drop off).take n)else none
 |_=>none
def ftRow(off n:Nat)(o:Option AObj):Prop:=match o with
 |some (.row _ b _)=>off+n<=b.length
 |_=>False
def zGk(e bytes r q g off n m:Nat)(c:List (List AV))(h:Prop)(o:Option AObj)(H:AH)(nx:Nat):ORes:=match o with
 |
  some (.row d b j)=>
  ⟨d=e/\g=j/\off+n<=b.length/\h/\(n+m)*bytes<=140737488355328,True,.own r q (g+1) 0 (n+m),H.set r q (.row e ((b.drop off).take n++c) (g+1)),nx⟩
 |_=>bad H nx
def apTo(d bytes:Nat)(x:AV)(b:Option (List (List AV)))(m:Option Nat)(c:Prop)(H:AH)(nx:Nat):ORes:=match b,m with
 |
  some b,some m=>match x with
  |.own r q g off n=>zGk d bytes r q g off n m b c (H.get r q) H nx
  |.nilsl |.cut=>⟨c/\m*bytes<=140737488355328,True,.own nx 0 0 0 m,H.set nx 0 (.row d b 0),nx+1⟩
  |_=>bad H nx
 |_,_=>bad H nx
theorem zze{b bytes}{x y}{H}{nx}:ze8 b bytes x y H nx=apTo b bytes x (zcq b y H) (lenV y) (fits H y) H nx:=by
 unfold ze8 apTo
 cases zcq b y H with
 |none=>rfl
 |some news=>
  cases lenV y with
  |none=>rfl
  |some m=>
   cases x<;>try rfl
   all_goals
    simp only[zGk];split<;>rfl
theorem zDa{l}:splice l 0 []=l:=by simp[splice]
theorem zAr{a v}{l vs}:splice (a::l) 0 (v::vs)=v::splice l 0 vs:=by simp[splice]
theorem zzM{a}{l vs}{n}:splice (a::l) (n+1) vs=a::splice l n vs:=by simp only[splice,List.take_succ_cons,WB];rw[show n+1+vs.length=(n+vs.length)+1 by omega,List.drop_succ_cons]
theorem evR :
 (∀{d r q g off n:Nat}{zero:List AV}{H:AH}{nx:Nat},ziF d zero (.own r q g off n) H nx=clRow d r q g off n zero (H.get r q) H nx) /\
 (∀ {d r q g off n p t:Nat}{zero:List AV}{e:List (List AV)}{H:AH}{nx:Nat},clRow d r q g off n zero (some (.row p e t)) H nx=⟨p=d/\g=t/\off+n<=e.length,True,.undef,H.set r q (.row d (e.take off++Wc n zero++e.drop (off+n)) t),nx⟩) /\
 (∀{r q g off n:Nat}{H:AH}{nx:Nat},cutR (.own r q g off n) H nx=⟨True,True,.cut,H,nx⟩)/\(∀{H:AH}{nx:Nat},cutR .nilsl H nx=⟨True,True,.cut,H,nx⟩)/\(∀{H:AH}{nx:Nat},cutR .cut H nx=⟨True,True,.cut,H,nx⟩)/\(∀{α:Type}{d:Nat}{f:α->List AV}{l:List α}{H:AH}{nx:Nat},cutR (encL d f l) H nx=⟨True,True,.cut,H,nx⟩) /\
 (∀{l:List AV},splice l 0 []=l)/\(∀{a v:AV}{l w:List AV},splice (a::l) 0 (v::w)=v::splice l 0 w)/\(∀{a:AV}{l w:List AV}{n:Nat},splice (a::l) (n+1) w=a::splice l n w) /\
 (∀{agg:Bool}{n r q g i f:Nat}{H:AH}{nx:Nat},zd5 agg n (.ptr r q g i f) H nx=ldRow agg n i f g (H.get r q) H nx) /\
 (∀{agg:Bool}{n m:Nat}{c:Nat->AV}{H:AH}{nx:Nat},zd5 agg n (.iptr m c) H nx=⟨n<=m,(bif agg then .agg (tab c n 0)else c 0:AV).wf,bif agg then .agg (tab c n 0)else c 0,H,nx⟩) /\
 (∀ {agg:Bool}{n i f g d t:Nat}{e:List (List AV)}{H:AH}{nx:Nat},ldRow agg n i f g (some (.row d e t)) H nx =
  ⟨g=t/\i<e.length/\f+n<=d,(bif agg then .agg (bif Wa f 0&&Wa n d then e.getD i []else sub (e.getD i []) f n)else(e.getD i []).getD f .undef:AV).wf,bif agg then .agg (bif Wa f 0&&Wa n d then e.getD i []else sub (e.getD i []) f n)else(e.getD i []).getD f .undef,H,nx⟩) /\
 (∀{n r q g i f:Nat}{v:AV}{H:AH}{nx:Nat},zfu n (.ptr r q g i f) v H nx=stRow n r q i f g v (H.get r q) H nx) /\
 (∀ {n r q i f g d t:Nat}{e:List (List AV)}{v:AV}{H:AH}{nx:Nat},stRow n r q i f g v (some (.row d e t)) H nx =
  ⟨g=t/\i<e.length/\f+n<=d/\v.solid=true/\v.cells.length=n,True,.undef,H.set r q (.row d (e.set i (bif Wa f 0&&Wa n d then v.cells else splice (e.getD i []) f v.cells)) t),nx⟩) /\
 (∀{d r q g off n:Nat}{k:IntKind}{i:Int}{H:AH}{nx:Nat},idxR d (.own r q g off n) (.int k i) H nx=ixRow d r q g off n i (H.get r q) H nx) /\
 (∀ {d r q g off n p t:Nat}{e:List (List AV)}{i:Int}{H:AH}{nx:Nat},ixRow d r q g off n i (some (.row p e t)) H nx=⟨p=d/\g=t/\0<=i/\i<n,True,.ptr r q g (off+i.toNat) 0,H,nx⟩) /\
 (∀{r q g off n:Nat}{H:AH}{nx:Nat},lenR (.own r q g off n) H nx=⟨True,n<=9223372036854775807,.int .i64 n,H,nx⟩) /\
 (∀{H:AH}{nx:Nat},lenR .nilsl H nx=⟨True,True,.int .i64 0,H,nx⟩) /\
 (∀{H:AH}{nx:Nat},lenR .cut H nx=⟨True,True,.int .i64 0,H,nx⟩) /\
 (∀{off n r q g i f:Nat}{H:AH}{nx:Nat},zcO off n (.ptr r q g i f) H nx=⟨True,True,.ptr r q g i (f+off),H,nx⟩) /\
 (∀{off n m:Nat}{c:Nat->AV}{H:AH}{nx:Nat},zcO off n (.iptr m c) H nx=⟨off+n<=m,True,.iptr n (λj=>c (off+j)),H,nx⟩) /\
 (∀{d r q g off n:Nat}{k z:IntKind}{a b:Int}{H:AH}{nx:Nat},zfY d (.own r q g off n) (some (.int k a)) (some (.int z b)) H nx=zFy d r q g off n a b (H.get r q) H nx) /\
 (∀{d r q g off n:Nat}{k:IntKind}{a:Int}{H:AH}{nx:Nat},zfY d (.own r q g off n) (some (.int k a)) none H nx=zFy d r q g off n a n (H.get r q) H nx) /\
 (∀{d r q g off n:Nat}{z:IntKind}{b:Int}{H:AH}{nx:Nat},zfY d (.own r q g off n) none (some (.int z b)) H nx=zFy d r q g off n 0 b (H.get r q) H nx) /\
 (∀ {d r q g off n p t:Nat}{e:List (List AV)}{a b:Int}{H:AH}{nx:Nat},zFy d r q g off n a b (some (.row p e t)) H nx=⟨p=d/\g=t/\0<=a/\a<=b/\b<=n,True,.own r q g (off+a.toNat) (b-a).toNat,H,nx⟩) /\
 (∀{d bytes:Nat}{x y:AV}{H:AH}{nx:Nat},ze8 d bytes x y H nx=apTo d bytes x (zcq d y H) (lenV y) (fits H y) H nx) /\
 (∀{d r q g off n:Nat}{H:AH},zcq d (.own r q g off n) H=elRow d g off n (H.get r q)) /\
 (∀{d:Nat}{H:AH},zcq d .nilsl H=some [])/\(∀{d:Nat}{H:AH},zcq d .cut H=some []) /\
 (∀ {d g off n p t:Nat}{e:List (List AV)},elRow d g off n (some (.row p e t))=bif Wa p d&&Wa g t then some ((e.drop off).take n)else none) /\
 (∀{r q g off n:Nat},lenV (.own r q g off n)=some n)/\(lenV .nilsl=some 0)/\(lenV .cut=some 0)/\(∀{α:Type}{d:Nat}{f:α->List AV}{l:List α},lenV (encL d f l)=some l.length) /\
 (∀{r q g off n:Nat}{H:AH},fits H (.own r q g off n)=ftRow off n (H.get r q))/\(∀{H:AH},fits H .nilsl=True)/\(∀{H:AH},fits H .cut=True)/\(∀{α:Type}{d:Nat}{f:α->List AV}{l:List α}{H:AH},fits H (encL d f l)=True) /\
 (∀ {off n d g:Nat}{e:List (List AV)},ftRow off n (some (.row d e g))=(off+n<=e.length)) /\
 (∀ {d bytes r q g off n m:Nat}{h:List (List AV)}{u:Prop}{H:AH}{nx:Nat},apTo d bytes (.own r q g off n) (some h) (some m) u H nx=zGk d bytes r q g off n m h u (H.get r q) H nx) /\
 (∀ {d bytes m:Nat}{h:List (List AV)}{u:Prop}{H:AH}{nx:Nat},apTo d bytes .nilsl (some h) (some m) u H nx=⟨u/\m*bytes<=140737488355328,True,.own nx 0 0 0 m,H.set nx 0 (.row d h 0),nx+1⟩) /\
 (∀ {d bytes m:Nat}{h:List (List AV)}{u:Prop}{H:AH}{nx:Nat},apTo d bytes .cut (some h) (some m) u H nx=⟨u/\m*bytes<=140737488355328,True,.own nx 0 0 0 m,H.set nx 0 (.row d h 0),nx+1⟩) /\
 (∀ {d bytes r q g off n m p t:Nat}{h e:List (List AV)}{u:Prop}{H:AH}{nx:Nat},zGk d bytes r q g off n m h u (some (.row p e t)) H nx =
  ⟨p=d/\g=t/\off+n<=e.length/\u/\(n+m)*bytes<=140737488355328,True,.own r q (g+1) 0 (n+m),H.set r q (.row d ((e.drop off).take n++h) (g+1)),nx⟩) /\
 (∀{α:Type}{d:Nat}{f:α->List AV}{l:List α}{H:AH}{nx:Nat},lenR (encL d f l) H nx=⟨True,l.length<=big,.int .i64 l.length,H,nx⟩) /\
 (∀{α:Type}{d:Nat}{f:α->List AV}{l:List α}{H:AH}{nx:Nat}{s:Nat}{k:IntKind}{i:Int},idxR s (encL d f l) (.int k i) H nx=⟨d=s/\0<=i/\i<l.length,True,.iptr s (λj=>((l.map f).getD i.toNat []).getD j .undef),H,nx⟩):=by
 refine⟨rfl,rfl,rfl,rfl,rfl,rfl,zDa,zAr,zzM,rfl,rfl,rfl,rfl,rfl,rfl,rfl,rfl,rfl,rfl,rfl,rfl,?_,?_,?_,rfl,zze,rfl,rfl,rfl,rfl,rfl,rfl,rfl,rfl,rfl,rfl,rfl,rfl,rfl,rfl,rfl,rfl,rfl,rfl,rfl⟩
 all_goals
  intro d r q g off n;intros;rename_i H nx;simp only[zfY,zFy]
  cases H.get r q with
  |none=>rfl
  |some o=>cases o<;>rfl
def zIm(r q g off n:Nat)(o:Option AObj)(H:AH)(nx:Nat):ORes:=match o with
 |some (.row d b c)=>⟨d=1/\g=c/\0<n,True,.own r q g off n,H.set r q (.row d b c),nx⟩
 |_=>bad H nx
def zIX(r q g off n:Nat)(s:ByteArray)(o:Option AObj)(H:AH)(nx:Nat):ORes:=match o with
 |
  some (.row c b d)=>
  ⟨c=1/\g=d/\off+n<=b.length/\n+s.size<=140737488355328,True,.own r q (g+1) 0 (n+s.size),H.set r q (.row 1 ((b.drop off).take n++s.data.toList.map zms) (g+1)),nx⟩
 |_=>bad H nx
def zHF(h r q g off n:Nat)(b c:Int)(o:Option AObj)(H:AH)(nx:Nat):ORes:=match o with
 |some (.row d _ e)=>⟨d=h/\g=e/\0<=b/\b<=c/\c<=n,True,.own r q g off b.toNat,H,nx⟩
 |_=>bad H nx
def eqTo(neg:Bool)(o:Option Bool)(H:AH)(nx:Nat):ORes:=match o with
 |some t=>⟨True,True,.bool (bif neg then !t else t),H,nx⟩
 |none=>bad H nx
def bsTo(b:Prop)(lv:Bool)(o:Option (List UInt8))(H:AH)(nx:Nat):ORes:=match o with
 |some l=>⟨b/\lv=true,(AV.str ⟨l.toArray⟩).wf,.str ⟨l.toArray⟩,H,nx⟩
 |none=>bad H nx
def zAQ:Option (List (List AV))->Option (List UInt8)
 |some b=>zgu b
 |none=>none
def mlTo(str:Option IntKind)(ok:Bool)(zero k:AV)(c g:Nat)(o:Option (Option (Nat×AV)))(H:AH)(nx:Nat):ORes:=match o with
 |some b=>⟨c=3/\g=0/\zhq str k,(mgot ok zero b).wf,mgot ok zero b,H,nx⟩
 |none=>bad H nx
def zG9(str:Option IntKind)(ok:Bool)(zero k:AV)(o:Option AObj)(H:AH)(nx:Nat):ORes:=match o with
 |some (.row c (_::b) g)=>mlTo str ok zero k c g (zeC k b 0) H nx
 |_=>bad H nx
def msTo(str:Option IntKind)(r q:Nat)(k v:AV)(d g:Nat)(c:Int)(u e:AV)(b:List (List AV))(o:Option (Option (Nat×AV)))(H:AH)(nx:Nat):ORes:=match o with
 |some (some (i,_))=>⟨d=3/\g=0/\zhq str k,True,.undef,H.set r q (.row 3 ([.int .i64 c,u,e]::b.set i [k,v,(b.getD i []).getD 2 .undef]) 0),nx⟩
 |some none=>⟨d=3/\g=0/\zhq str k/\c<9223372036854775807,True,.undef,H.set r q (.row 3 ([.int .i64 (c+1),u,e]::(b++[[k,v,.int .i64 c]])) 0),nx⟩
 |none=>bad H nx
def msToU(str:Option IntKind)(r q:Nat)(k v:AV)(c g:Nat)(u d:AV)(b:List (List AV))(o:Option (Option (Nat×AV)))(H:AH)(nx:Nat):ORes:=match o with
 |some (some (i,_))=>⟨c=3/\g=0/\zhq str k,True,.undef,H.set r q (.row 3 ([.undef,u,d]::b.set i [k,v,(b.getD i []).getD 2 .undef]) 0),nx⟩
 |some none=>⟨c=3/\g=0/\zhq str k,True,.undef,H.set r q (.row 3 ([.undef,u,d]::(b++[[k,v,.undef]])) 0),nx⟩
 |none=>bad H nx
def zIW(str:Option IntKind)(r q:Nat)(k v:AV)(o:Option AObj)(H:AH)(nx:Nat):ORes:=match o with
 |
  some (.row sz (hd::es) g)=>match hd with
  |[.int .i64 c,u,b]=>msTo str r q k v sz g c u b es (zeC k es 0) H nx
  |[.undef,u,b]=>msToU str r q k v sz g u b es (zeC k es 0) H nx
  |_=>bad H nx
 |_=>bad H nx
theorem zIg{x}{H}{nx}:b2sR x H nx=bsTo (fits H x) (lenV x).isSome (zAQ (zcq 1 x H)) H nx:=by
 unfold b2sR zAQ bsTo
 cases zcq 1 x H with
 |none=>rfl
 |some b=>rfl
theorem zCf{str}{ok}{z k}{r q}{H}{nx}:zjn str ok z (.mp r q) k H nx=zG9 str ok z k (H.get r q) H nx:=by
 simp only[zjn,zG9]
 cases H.get r q with
 |none=>rfl
 |some o=>
  cases o with
  |fam _ _=>rfl
  |row sz b g=>
   cases b with
   |nil=>rfl
   |cons hd c=>rfl
theorem zFd{str}{k v}{r q}{H}{nx}:znK str (.mp r q) k v H nx=zIW str r q k v (H.get r q) H nx:=by
 simp only[znK,zIW]
 cases H.get r q with
 |none=>rfl
 |some o=>
  cases o with
  |fam _ _=>rfl
  |row sz d g=>
   cases d with
   |nil=>rfl
   |cons hd es=>
    simp only;split
    .rfl
    .rfl
    .rename_i b c;split
     .exact(b _ _ _ rfl).elim
     .exact(c _ _ rfl).elim
     .rfl
theorem zH6{sz r q g off n}{k k'}{b c}{H}{nx}:sl3R sz (.own r q g off n) (.int k b) (.int k' c) H nx=zHF sz r q g off n b c (H.get r q) H nx:=by
 simp only[sl3R,zHF]
 cases H.get r q with
 |none=>rfl
 |some o=>cases o<;>rfl
theorem zEB{r q g off n}{s:ByteArray}{H}{nx}:zqU (.own r q g off n) (.str s) H nx=zIX r q g off n s (H.get r q) H nx:=by
 simp only[zqU,zIX]
 cases H.get r q with
 |none=>rfl
 |some o=>cases o<;>rfl
theorem zEr{r q g off n}{H}{nx}:zr4 (.own r q g off n) H nx=zIm r q g off n (H.get r q) H nx:=by
 simp only[zr4,zIm]
 cases H.get r q with
 |none=>rfl
 |some o=>cases o<;>rfl
theorem zyY{l:List UInt8}:zgu (l.map zms)=some l:=by
 induction l with
 |nil=>rfl
 |cons b l c=>simp[zgu,zms,c]
theorem evX :
 (∀{r q g i f:Nat}{H:AH}{nx:Nat},xopR .nilck [.ptr r q g i f] H nx=⟨True,True,.ptr r q g i f,H,nx⟩) /\
 (∀{n:Nat}{c:Nat->AV}{H:AH}{nx:Nat},xopR .nilck [.iptr n c] H nx=⟨True,True,.iptr n c,H,nx⟩) /\
 (∀{n:Nat}{c:List AV}{H:AH}{nx:Nat},xopR .nilck [encP n c] H nx=⟨True,True,encP n c,H,nx⟩) /\
 (∀{neg:Bool}{a b:ByteArray}{H:AH}{nx:Nat},xopR (.seq neg) [.str a,.str b] H nx=⟨True,True,.bool (bif neg then !decide (a=b)else decide (a=b)),H,nx⟩) /\
 (∀{s:ByteArray}{k:IntKind}{i:Int}{H:AH}{nx:Nat},xopR .sidx [.str s,.int k i] H nx=⟨0<=i/\i<s.size,True,.int .u8 (zyb s i.toNat),H,nx⟩) /\
 (∀{s:ByteArray}{H:AH}{nx:Nat},xopR .s2b [.str s] H nx=⟨True,True,.own nx 0 0 0 s.size,H.set nx 0 (.row 1 (s.data.toList.map zms) 0),nx+1⟩) /\
 (∀{x:AV}{H:AH}{nx:Nat},xopR .b2s [x] H nx=bsTo (fits H x) (lenV x).isSome (zAQ (zcq 1 x H)) H nx) /\
 (∀{B:Prop}{lv:Bool}{l:List UInt8}{H:AH}{nx:Nat},bsTo B lv (some l) H nx=⟨B/\lv=true,(⟨l.toArray⟩:ByteArray).size<=big,.str ⟨l.toArray⟩,H,nx⟩) /\
 (∀ {e:List (List AV)},zAQ (some e)=zgu e) /\
 (∀{l:List UInt8},zgu (l.map zms)=some l) /\
 (∀{r q g off n:Nat}{H:AH}{nx:Nat},xopR .mark [.own r q g off n] H nx=zIm r q g off n (H.get r q) H nx) /\
 (∀ {r q g off n d o:Nat}{e:List (List AV)}{H:AH}{nx:Nat},zIm r q g off n (some (.row d e o)) H nx=⟨d=1/\g=o/\0<n,True,.own r q g off n,H.set r q (.row d e o),nx⟩) /\
 (∀{r q g off n:Nat}{s:ByteArray}{H:AH}{nx:Nat},xopR .sapp [.own r q g off n,.str s] H nx=zIX r q g off n s (H.get r q) H nx) /\
 (∀ {r q g off n d o:Nat}{s:ByteArray}{e:List (List AV)}{H:AH}{nx:Nat},zIX r q g off n s (some (.row d e o)) H nx =
  ⟨d=1/\g=o/\off+n<=e.length/\n+s.size<=140737488355328,True,.own r q (g+1) 0 (n+s.size),H.set r q (.row 1 ((e.drop off).take n++s.data.toList.map zms) (g+1)),nx⟩) /\
 (∀{s:ByteArray}{H:AH}{nx:Nat},xopR .sapp [.nilsl,.str s] H nx=⟨s.size<=140737488355328,True,.own nx 0 0 0 s.size,H.set nx 0 (.row 1 (s.data.toList.map zms) 0),nx+1⟩) /\
 (∀{s:ByteArray}{H:AH}{nx:Nat},xopR .sapp [.cut,.str s] H nx=⟨s.size<=140737488355328,True,.own nx 0 0 0 s.size,H.set nx 0 (.row 1 (s.data.toList.map zms) 0),nx+1⟩) /\
 (∀{k k':IntKind}{a b:Int}{H:AH}{nx:Nat},xopR .min [.int k a,.int k' b] H nx=⟨k=k',True,.int k (if b<a then b else a),H,nx⟩) /\
 (∀{k k':IntKind}{a b:Int}{H:AH}{nx:Nat},xopR .max [.int k a,.int k' b] H nx=⟨k=k',True,.int k (if a<b then b else a),H,nx⟩) /\
 (∀{neg:Bool}{y:List Nat}{a b:List AV}{H:AH}{nx:Nat},xopR (.eqs neg y) [.agg a,.agg b] H nx=eqTo neg (zT y a b) H nx) /\
 (∀{neg t:Bool}{H:AH}{nx:Nat},eqTo neg (some t) H nx=⟨True,True,.bool (bif neg then !t else t),H,nx⟩) /\
 (zT [] [] []=some true) /\
 (∀{s:List Nat}{k:IntKind}{a b:Int}{l m:List AV},zT (0::s) (.int k a::l) (.int k b::m)=(zT s l m).map (decide (a=b)&&·)) /\
 (∀{s:List Nat}{a b:ByteArray}{l m:List AV},zT (1::s) (.str a::l) (.str b::m)=(zT s l m).map (decide (a=b)&&·)) /\
 (∀{s:List Nat}{a b:Bool}{l m:List AV},zT (2::s) (.bool a::l) (.bool b::m)=(zT s l m).map ((a == b)&&·)) /\
 (∀{f:Bool->Bool}{a:Bool},Option.map f (some a)=some (f a)) /\
 (∀{d r q g off n:Nat}{k k':IntKind}{b c:Int}{H:AH}{nx:Nat},xopR (.sl3 d) [.own r q g off n,.int k b,.int k' c] H nx=zHF d r q g off n b c (H.get r q) H nx) /\
 (∀ {d r q g off n A o:Nat}{b c:Int}{e:List (List AV)}{H:AH}{nx:Nat},zHF d r q g off n b c (some (.row A e o)) H nx=⟨A=d/\g=o/\0<=b/\b<=c/\c<=n,True,.own r q g off b.toNat,H,nx⟩) /\
 (∀{d:Nat}{k k':IntKind}{b c:Int}{H:AH}{nx:Nat},xopR (.sl3 d) [.nilsl,.int k b,.int k' c] H nx=⟨b=0/\c=0,True,.nilsl,H,nx⟩) /\
 (∀{H:AH}{nx:Nat},xopR .mkmap [] H nx=⟨True,True,.mp nx 0,H.set nx 0 (.row 3 [[.int .i64 0,.undef,.undef]] 0),nx+1⟩) /\
 (∀{str:Option IntKind}{ok:Bool}{z k:AV}{r q:Nat}{H:AH}{nx:Nat},xopR (.mlook str ok z) [.mp r q,k] H nx=zG9 str ok z k (H.get r q) H nx) /\
 (∀ {str:Option IntKind}{ok:Bool}{z k:AV}{d g:Nat}{hd:List AV}{j:List (List AV)}{H:AH}{nx:Nat},zG9 str ok z k (some (.row d (hd::j) g)) H nx=mlTo str ok z k d g (zeC k j 0) H nx) /\
 (∀ {str:Option IntKind}{ok:Bool}{z k:AV}{d g:Nat}{w:Option (Nat×AV)}{H:AH}{nx:Nat},mlTo str ok z k d g (some w) H nx=⟨d=3/\g=0/\zhq str k,(mgot ok z w).wf,mgot ok z w,H,nx⟩) /\
 (∀{str:Option IntKind}{k v:AV}{r q:Nat}{H:AH}{nx:Nat},xopR (.mset str) [.mp r q,k,v] H nx=zIW str r q k v (H.get r q) H nx) /\
 (∀ {str:Option IntKind}{k v:AV}{r q d g:Nat}{c:Int}{u p:AV}{j:List (List AV)}{H:AH}{nx:Nat},zIW str r q k v (some (.row d ([.int .i64 c,u,p]::j) g)) H nx=msTo str r q k v d g c u p j (zeC k j 0) H nx) /\
 (∀ {str:Option IntKind}{k v:AV}{r q d g i:Nat}{c:Int}{u p x:AV}{j:List (List AV)}{H:AH}{nx:Nat},msTo str r q k v d g c u p j (some (some (i,x))) H nx =
  ⟨d=3/\g=0/\zhq str k,True,.undef,H.set r q (.row 3 ([.int .i64 c,u,p]::j.set i [k,v,(j.getD i []).getD 2 .undef]) 0),nx⟩) /\
 (∀ {str:Option IntKind}{k v:AV}{r q d g:Nat}{c:Int}{u p:AV}{j:List (List AV)}{H:AH}{nx:Nat},msTo str r q k v d g c u p j (some none) H nx =
  ⟨d=3/\g=0/\zhq str k/\c<9223372036854775807,True,.undef,H.set r q (.row 3 ([.int .i64 (c+1),u,p]::(j++[[k,v,.int .i64 c]])) 0),nx⟩) /\
 (∀{q k:IntKind}{n:Int},zhq (some q) (.int k n)=(q=k))/\(∀{s:ByteArray},zhq none (.str s)=True) /\
 (∀ {z:AV}{r:Option (Nat×AV)},mgot false z r=mval z r)/\(∀ {z:AV}{r:Option (Nat×AV)},mgot true z r=.tup [mval z r,.bool r.isSome]) /\
 (∀{z v:AV}{i:Nat},mval z (some (i,v))=v)/\(∀{z:AV},mval z none=z) /\
 (∀{r q:Nat},Xd (.mp r q)=[.mp r q])/\(Xd .nilmp=[.nilmp])/\(∀{r:Nat},Xd (.it r)=[.it r]) /\
 (∀{r q:Nat},Xe (.mp r q)=true)/\(Xe .nilmp=true)/\(∀{r:Nat},Xe (.it r)=true) /\
 (∀{r q:Nat},Xb (.mp r q)=True)/\(Xb .nilmp=True)/\(∀{r:Nat},Xb (.it r)=True) /\
 (∀{s:ByteArray}{H:AH}{nx:Nat},zte (.str s) H nx=⟨True,s.size<=big,.int .i64 s.size,H,nx⟩) /\
 (∀{b:Bool},(!!b)=b):=by
 refine⟨rfl,rfl,rfl,rfl,rfl,rfl,zIg,rfl,rfl,zyY,zEr,rfl,zEB,rfl,rfl,rfl,rfl,rfl,?_,rfl,?_,?_,?_,?_,rfl,@λd r q g off n k k' b c H nx=>zH6 (k:=k) (k':=k'),rfl,rfl,rfl,zCf,rfl,rfl,zFd,rfl,rfl,rfl,rfl,rfl,rfl,rfl,rfl,rfl,rfl,rfl,rfl,rfl,rfl,rfl,rfl,rfl,rfl,rfl,by simp⟩
 .intro neg y a b H nx;show eqsR neg y (.agg a) (.agg b) H nx=_;unfold eqsR eqTo;simp only;cases h:zT y a b<;>simp only[h]
 .simp[zT]
 .intro s k a b l m;simp[zT]
 .intro s a b l m;simp[zT]
 .intro s a b l m;simp[zT]
section
variable {H HH:AH}{σ:Nat->Nat->Option (Nat×Nat×Nat)}{D:Nat->Nat->Prop}{t:Bool}
theorem zCT{k k'}{n m}:Vw H HH σ D t (.int k n) (.int k' m)=(k=k'/\n=m):=by refine propext ⟨λh=>by cases h;exact⟨rfl,rfl⟩,?_⟩;rintro⟨rfl,rfl⟩;exact .int _ _ _
theorem zz4{a b}:Vw H HH σ D t (.bool a) (.bool b)=(a=b):=by refine propext ⟨λh=>by cases h;rfl,?_⟩;rintro rfl;exact .bool _ _
theorem zCN{r q g o n r' q' g' o' n'}:Vw H HH σ D true (.own r q g o n) (.own r' q' g' o' n')=((σ r' q'=some (r,q,g-g')/\g'<=g)/\o=o'/\n=n'):=by
 refine propext ⟨λh=>?_,?_⟩
 .cases h;rename_i d e c;subst c;exact⟨⟨by rw[e,WC],by omega⟩,rfl,rfl⟩
 .rintro⟨⟨b,j⟩,rfl,rfl⟩;exact .own r q g (g-g') o n r' q' g' b (by omega)
theorem zDc{r q g i f r' q' g' i' f'}:Vw H HH σ D true (.ptr r q g i f) (.ptr r' q' g' i' f')=((σ r' q'=some (r,q,g-g')/\g'<=g)/\i=i'/\f=f'):=by
 refine propext ⟨λh=>?_,?_⟩
 .cases h;rename_i d e c;subst c;exact⟨⟨by rw[e,WC],by omega⟩,rfl,rfl⟩
 .rintro⟨⟨b,j⟩,rfl,rfl⟩;exact .ptr r q g (g-g') i f r' q' g' b (by omega)
def VwL(H HH:AH)(σ:Nat->Nat->Option (Nat×Nat×Nat))(D:Nat->Nat->Prop)(t:Bool):List AV->List AV->Prop
 |[],[]=>True
 |a::l,b::m=>Vw H HH σ D t a b/\VwL H HH σ D t l m
 |_,_=>False
theorem VwL.get:∀{l m:List AV},VwL H HH σ D t l m->l.length=m.length/\∀(i:Nat)(a b:AV),l[i]?=some a->m[i]?=some b->Vw H HH σ D t a b
 |[],[],_=>⟨rfl,λi a b h=>by cases h⟩
 |
  a::l,b::m,h=>by
  obtain⟨e,g⟩:=VwL.get h.2;refine⟨by simp[e],λi x y c d=>?_⟩
  cases i with
  |zero=>cases c;cases d;exact h.1
  |succ i=>exact g i x y (by simpa using c) (by simpa using d)
 |[],b::m,h=>h.elim
 |a::l,[],h=>h.elim
theorem VwL.of:∀{l m:List AV},l.length=m.length->(∀(i:Nat)(a b:AV),l[i]?=some a->m[i]?=some b->Vw H HH σ D t a b)->VwL H HH σ D t l m
 |[],[],_,_=>trivial
 |a::l,b::m,h,c=>⟨c 0 a b rfl rfl,VwL.of (by simpa using h) (λi x y d e=>c (i+1) x y (by simpa using d) (by simpa using e))⟩
 |[],b::m,h,_=>by cases h
 |a::l,[],h,_=>by cases h
theorem zD9{f b:Fn}{l m}:Vw H HH σ D t (.fn f l) (.fn b m)=(f=b/\VwL H HH σ D t l m):=by
 refine propext ⟨λh=>?_,?_⟩
 .cases h with
  |fn _ _ _ _ c h=>exact⟨rfl,VwL.of c h⟩
 .rintro⟨rfl,h⟩;exact .fn _ _ _ _ h.get.1 h.get.2
theorem zcX{l m}:Vw H HH σ D t (.agg l) (.agg m)=VwL H HH σ D t l m:=by
 refine propext ⟨λh=>?_,λh=>.agg _ _ _ h.get.1 h.get.2⟩
 cases h with
 |agg _ _ _ b h=>exact VwL.of b h
theorem zik{l m}:Vw H HH σ D t (.tup l) (.tup m)=VwL H HH σ D t l m:=by
 refine propext ⟨λh=>?_,λh=>.tup _ _ _ h.get.1 h.get.2⟩
 cases h with
 |tup _ _ _ b h=>exact VwL.of b h
theorem zCv{r' q' g' o n}:Vw H HH σ D true .nilsl (.own r' q' g' o n)=(σ r' q'=none/\(∃b,HH.get r' q'=some (.row b [] 0))/\g'=0/\o=0/\n=0):=by
 refine propext ⟨λh=>?_,?_⟩
 .cases h with
  |new _ _ b e d=>exact⟨e,⟨b,d⟩,rfl,rfl,rfl⟩
 .rintro⟨h1,⟨b,c⟩,rfl,rfl,rfl⟩;exact .new _ _ b h1 c
def zG4(H HH:AH)(σ:Nat->Nat->Option (Nat×Nat×Nat))(D:Nat->Nat->Prop)(h:Nat)(b:List (List AV))(g:Nat)(o:Option AObj):Prop:=match o with
 |some (.row d c e)=>(d=h/\e=g)/\RowV H HH σ D c b
 |_=>False
def zFR(H HH:AH)(h:Tab)(e:List Nat)(g:Nat)(b:List (List AV))(c:Nat):Option (Nat×Nat)->Prop
 |some (r,d)=>zG4 H HH h.sig (inD e) g b (c+d) (H.get r 0)
 |none=>b=[]/\c=0
theorem zvT{c}{ds}{n e sz g2}{els2}{u}:
  zml H HH c ds n ((e,.row sz els2 g2)::u)=(e<n/\zFR H HH c ds sz els2 g2 (c.at e)/\zml H HH c ds n u):=by
 simp only[zml,Wm];congr 2
 cases c.at e with
 |none=>rfl
 |some p=>
  obtain⟨r,d⟩:=p;simp only[zFR,zG4];refine propext ⟨?_,λh=>?_⟩
  .rintro⟨b,j,k⟩;rw[j];exact⟨⟨rfl,rfl⟩,k⟩
  .cases g:H.get r 0 with
   |none=>rw[g]at h;exact h.elim
   |some o=>
    rw[g]at h
    cases o with
    |fam _ _=>exact h.elim
    |row sz' b g'=>obtain⟨⟨rfl,rfl⟩,h⟩:=h;exact⟨b,rfl,h⟩
theorem zkK{b}(h:∀c∈b,zz c=true):RowV H HH σ D b b:=by refine⟨rfl,λi d k=>?_⟩;refine⟨d,k,rfl,λj x y e g=>?_⟩;rw[e]at g;cases g;exact zl (zbN (h d (Wk k)) e)
theorem zly{b}(h:∀c∈b,zz c=true):RowV H HH σ D b b=True:=eq_true (zkK h)
def zw(b:List (List AV)):Prop:=∀c∈b,zz c=true
theorem zm3:zw []=True:=by simp[zw]
theorem zk5{c}{l}:zw (c::l)=(zz c=true/\zw l):=by simp[zw]
theorem ziG{l m}:zw (l++m)=(zw l/\zw m):=by unfold zw;simp only[List.mem_append,eq_iff_iff];exact⟨λh=>⟨λc b=>h c (.inl b),λc b=>h c (.inr b)⟩,λh c b=>b.elim (h.1 c) (h.2 c)⟩
theorem zmH{α:Type}{f:α->List AV}{l:List α}:zw (l.map f)=∀a∈l,zz (f a)=true:=by simp[zw]
theorem zm1{n}{c}(h:zz c=true):zw (Wc n c)=True:=by
 refine eq_true λx b=>?_
 rw[(List.mem_replicate.1 b).2];exact h
theorem zmr{l}{i}{c}(h:zz c=true)(d:zw l):zw (l.set i c)=True:=by
 refine eq_true λx b=>?_
 rcases List.mem_or_eq_of_mem_set b with b|rfl
 .exact d x b
 .exact h
theorem zGa{A}{a b}(h:zw A):RowV H HH σ D (A++[a]) (A++[b])=VwL H HH σ D true a b:=by
 refine propext ⟨λq=>?_,λn=>?_⟩
 .obtain⟨c,e,k,o⟩:=q.2 A.length b (by simp);simp at e;subst e;exact VwL.of k.symm o
 .refine⟨by simp,λi m d=>?_⟩;by_cases g:i<A.length
  .rw[WD g]at d;refine⟨m,by rw[WD g];exact d,rfl,λj x y e k=>?_⟩;rw[e]at k;cases k;exact zl (zbN (h m (Wk d)) e)
  .have p:i=A.length:=by have:=(WE.1 d).1;simp at this;omega
   subst p;simp at d;subst d;exact⟨a,by simp,n.get.1.symm,n.get.2⟩
abbrev cI(n:Int):List AV:=[.int .i64 n]
abbrev cN(n:Nat):List AV:=[.int .i64 (n:Int)]
abbrev cB(b:Bool):List AV:=[.bool b]
theorem zyh:RowV H HH σ D [] []=True:=eq_true (zkK (by simp))
theorem zwu{a b}:RowV H HH σ D [a] [b]=VwL H HH σ D true a b:=by
 refine propext ⟨λh=>?_,λh=>?_⟩
 .obtain⟨c,e,g,j⟩:=h.2 0 b rfl;cases e;exact VwL.of g.symm j
 .refine⟨rfl,λi k d=>?_⟩
  cases i with
  |zero=>cases d;exact⟨a,rfl,h.get.1.symm,h.get.2⟩
  |succ i=>simp at d
theorem zJE{r' q'}:Tab.sig [] r' q'=none:=rfl
theorem zHq{a b d c q'}{tb}:Tab.sig ((a,b,d)::tb) c q'=bif a == c then some (b,q',d)else Tab.sig tb c q':=by unfold Tab.sig;simp only[Tab.at,zgX];cases a == c<;>rfl
theorem at_nil{x}:Tab.at [] x=none:=rfl
theorem zGB{a b d x}{tb}:Tab.at ((a,b,d)::tb) x=bif a == x then some (b,d)else Tab.at tb x:=by simp only[Tab.at,zgX]
end
theorem zwZ{α β:Type}{f:α->β}{l:List α}:(l.map f).take l.length=l.map f:=by rw[List.take_of_length_le (by simp)]
theorem evU:(∀{α β:Type}{f:α->β}{c:List α},(c.map f).length=c.length)/\(∀{α β:Type}{f:α->β}{l:List α},(l.map f).take l.length=l.map f)/\(∀{α:Type}{l:List α},l.take l.length=l) /\
  (∀n:Nat,n*1=n)/\(∀n:Nat,1*n=n)/\((!true)=false)/\((!false)=true)/\(∀{α β:Type}{f:α->β}{a:α},(some a).map f=some (f a))/\(∀{h:Decidable True},@decide True h=true)/\(∀{h:Decidable False},@decide False h=false) /\
  (∀b:Bool,(false != b)=b)/\(∀b:Bool,(true != b) = !b)/\(∀b:Bool,(b != false)=b)/\(∀b:Bool,(b != true) = !b) :=
 ⟨List.length_map _,zwZ,List.take_length,Nat.mul_one,Nat.one_mul,rfl,rfl,rfl,decide_true _,decide_false _,Bool.false_bne,Bool.true_bne,Bool.bne_false,Bool.bne_true⟩
theorem evV:(∀n:Nat,(n<n)=False)/\(∀{α β:Type}{f:α->β}{a b:List α},(a++b).map f=a.map f++b.map f)/\(∀{α β:Type}{f:α->β}{a:α}{l:List α},(a::l).map f=f a::l.map f)/\(∀{α β:Type}{f:α->β},[].map f=[]) /\
  (∀{α:Type}{a b:List α},(a++b).length=a.length+b.length)/\(∀{α:Type}{a:α}{l:List α},(a::l).length=l.length+1)/\(∀{α:Type},([]:List α).length=0)/\(∀{α:Type}{p:α->Bool},[].filter p=[])/\(∀{α:Type}{l:List α},l.take 0=[]) /\
  (∀{α β:Type}{f:α->β}{l:List α},(l.map f).length=l.length)/\(∀{α:Type}{n:Nat}{a:α},(Wc n a).length=n)/\(∀{α:Type}{l:List α}{i:Nat}{a:α},(l.set i a).length=l.length) /\
  (∀a b:Nat,((a+b:Nat):Int)=a+b)/\(∀a:Int,0+a=a)/\(∀n:Nat,n+0=n)/\(∀n:Nat,n-n=0)/\(∀n:Nat,n-0=n) :=
 ⟨λ_=>eq_false (Nat.lt_irrefl _),List.map_append,rfl,rfl,WF,rfl,rfl,rfl,List.take_zero,List.length_map _,List.length_replicate,List.length_set,Int.natCast_add,Int.zero_add,Nat.add_zero,Nat.sub_self,Nat.sub_zero⟩
theorem evW :
 (∀{H e:AH}{w:Tab}{z:List Nat}{K:Kn},zsM H e w z [] K=True) /\
 (∀{H e:AH}{w:Tab}{z:List Nat}{K:Kn}{j:Nat}{v:AV}{u:Kn},zsM H e w z ((j,v)::u) K=(Vw H e w.sig (inD z) true (K.get j) v/\zsM H e w z u K)) /\
 (∀{H e:AH}{w:Tab}{z:List Nat}{n:Nat},zml H e w z n []=True) /\
 (∀ {H e:AH}{w:Tab}{z:List Nat}{n B y J:Nat}{p:List (List AV)}{u:AH},zml H e w z n ((B,.row y p J)::u)=(B<n/\zFR H e w z y p J (w.at B)/\zml H e w z n u)) /\
 (∀ {H e:AH}{w:Tab}{z:List Nat}{y J r d:Nat}{p:List (List AV)},zFR H e w z y p J (some (r,d))=zG4 H e w.sig (inD z) y p (J+d) (H.get r 0)) /\
 (∀ {H e:AH}{w:Tab}{z:List Nat}{y J:Nat}{p:List (List AV)},zFR H e w z y p J none=(p=[]/\J=0)) /\
 (∀ {H e:AH}{σ:Nat->Nat->Option (Nat×Nat×Nat)}{D:Nat->Nat->Prop}{y g M I:Nat}{F p:List (List AV)},zG4 H e σ D y p g (some (.row M F I))=((M=y/\I=g)/\RowV H e σ D F p)) /\
 (∀ {H e:AH}{σ:Nat->Nat->Option (Nat×Nat×Nat)}{D:Nat->Nat->Prop},RowV H e σ D [] []=True) /\
 (∀ {H e:AH}{σ:Nat->Nat->Option (Nat×Nat×Nat)}{D:Nat->Nat->Prop}{A:List (List AV)}{a b:List AV},zw A->RowV H e σ D (A++[a]) (A++[b])=VwL H e σ D true a b) /\
 (∀ {H e:AH}{σ:Nat->Nat->Option (Nat×Nat×Nat)}{D:Nat->Nat->Prop}{F:List (List AV)},zw F->RowV H e σ D F F=True) /\
 (zw []=True)/\(∀ {c:List AV}{l:List (List AV)},zw (c::l)=(zz c=true/\zw l))/\(∀ {l m:List (List AV)},zw (l++m)=(zw l/\zw m)) /\
 (∀{α:Type}{f:α->List AV}{l:List α},zw (l.map f)=∀a∈l,zz (f a)=true)/\(∀{n:Nat}{c:List AV},zz c=true->zw (Wc n c)=True) /\
 (∀ {l:List (List AV)}{i:Nat}{c:List AV},zz c=true->zw l->zw (l.set i c)=True) /\
 (∀ {H e:AH}{σ:Nat->Nat->Option (Nat×Nat×Nat)}{D:Nat->Nat->Prop}{t:Bool}{a:AV},a.flat0=true->Vw H e σ D t a a=True) /\
 (∀ {H e:AH}{σ:Nat->Nat->Option (Nat×Nat×Nat)}{D:Nat->Nat->Prop}{a b:List AV},RowV H e σ D [a] [b]=VwL H e σ D true a b) /\
 (∀ {H e:AH}{σ:Nat->Nat->Option (Nat×Nat×Nat)}{D:Nat->Nat->Prop}{t:Bool},VwL H e σ D t [] []=True) /\
 (∀ {H e:AH}{σ:Nat->Nat->Option (Nat×Nat×Nat)}{D:Nat->Nat->Prop}{t:Bool}{a b:AV}{l m:List AV},VwL H e σ D t (a::l) (b::m)=(Vw H e σ D t a b/\VwL H e σ D t l m)) /\
 (∀ {H e:AH}{σ:Nat->Nat->Option (Nat×Nat×Nat)}{D:Nat->Nat->Prop}{t:Bool}{k O:IntKind}{n m:Int},Vw H e σ D t (.int k n) (.int O m)=(k=O/\n=m)) /\
 (∀ {H e:AH}{σ:Nat->Nat->Option (Nat×Nat×Nat)}{D:Nat->Nat->Prop}{t:Bool}{a b:Bool},Vw H e σ D t (.bool a) (.bool b)=(a=b)) /\
 (∀ {H e:AH}{σ:Nat->Nat->Option (Nat×Nat×Nat)}{D:Nat->Nat->Prop}{r q g o n B C I Q P:Nat},Vw H e σ D true (.own r q g o n) (.own B C I Q P)=((σ B C=some (r,q,g-I)/\I<=g)/\o=Q/\n=P)) /\
 (∀ {H e:AH}{σ:Nat->Nat->Option (Nat×Nat×Nat)}{D:Nat->Nat->Prop}{r q g i f B C I N L:Nat},Vw H e σ D true (.ptr r q g i f) (.ptr B C I N L)=((σ B C=some (r,q,g-I)/\I<=g)/\i=N/\f=L)) /\
 (∀ {H e:AH}{σ:Nat->Nat->Option (Nat×Nat×Nat)}{D:Nat->Nat->Prop}{t:Bool}{f L:Fn}{l m:List AV},Vw H e σ D t (.fn f l) (.fn L m)=(f=L/\VwL H e σ D t l m)) /\
 (∀ {H e:AH}{σ:Nat->Nat->Option (Nat×Nat×Nat)}{D:Nat->Nat->Prop}{t:Bool}{l m:List AV},Vw H e σ D t (.agg l) (.agg m)=VwL H e σ D t l m) /\
 (∀ {H e:AH}{σ:Nat->Nat->Option (Nat×Nat×Nat)}{D:Nat->Nat->Prop}{t:Bool}{l m:List AV},Vw H e σ D t (.tup l) (.tup m)=VwL H e σ D t l m) /\
 (∀ {H e:AH}{σ:Nat->Nat->Option (Nat×Nat×Nat)}{D:Nat->Nat->Prop}{B C I o n:Nat},Vw H e σ D true .nilsl (.own B C I o n)=(σ B C=none/\(∃y,e.get B C=some (.row y [] 0))/\I=0/\o=0/\n=0)) /\
 (∀ {H e:AH}{σ:Nat->Nat->Option (Nat×Nat×Nat)}{D:Nat->Nat->Prop}{t:Bool}{a:AV},Vw H e σ D t a .undef=True) /\
 (∀ {H e:AH}{σ:Nat->Nat->Option (Nat×Nat×Nat)}{D:Nat->Nat->Prop}{t:Bool},Vw H e σ D t .nilsl .nilsl=True) /\
 (∀ {H e:AH}{σ:Nat->Nat->Option (Nat×Nat×Nat)}{D:Nat->Nat->Prop}{t:Bool},Vw H e σ D t .nilfn .nilfn=True) /\
 (∀ {H e:AH}{σ:Nat->Nat->Option (Nat×Nat×Nat)}{D:Nat->Nat->Prop}{t:Bool},Vw H e σ D t .nilp .nilp=True) /\
 (∀ {H e:AH}{σ:Nat->Nat->Option (Nat×Nat×Nat)}{D:Nat->Nat->Prop}{t:Bool},Vw H e σ D t .cut .cut=True) /\
 (∀ {H e:AH}{σ:Nat->Nat->Option (Nat×Nat×Nat)}{D:Nat->Nat->Prop}{t:Bool}{s:ByteArray},Vw H e σ D t (.str s) (.str s)=True) /\
 (∀ {H e:AH}{σ:Nat->Nat->Option (Nat×Nat×Nat)}{D:Nat->Nat->Prop}{t:Bool}{n:Nat}{c:Nat->AV},Vw H e σ D t (.iptr n c) (.iptr n c)=True) /\
 (∀ {H e:AH}{σ:Nat->Nat->Option (Nat×Nat×Nat)}{D:Nat->Nat->Prop}{t:Bool}{y n:Nat}{f:Nat->Nat->AV},Vw H e σ D t (.sl y n f) (.sl y n f)=True) /\
 (∀ {H e:AH}{σ:Nat->Nat->Option (Nat×Nat×Nat)}{D:Nat->Nat->Prop}{t:Bool}{α:Type}{y:Nat}{f:α->List AV}{l:List α},Vw H e σ D t (encL y f l) (encL y f l)=True) /\
 (∀ {H e:AH}{σ:Nat->Nat->Option (Nat×Nat×Nat)}{D:Nat->Nat->Prop}{t:Bool}{α:Type}{y:Nat}{f:α->List AV},Vw H e σ D t .nilsl (encL y f [])=True) /\
 (∀{B C:Nat},Tab.sig [] B C=none) /\
 (∀{a b d B C:Nat}{w:Tab},Tab.sig ((a,b,d)::w) B C=bif a == B then some (b,C,d)else Tab.sig w B C) /\
 (∀{x:Nat},Tab.at [] x=none) /\
 (∀{a b d x:Nat}{w:Tab},Tab.at ((a,b,d)::w) x=bif a == x then some (b,d)else Tab.at w x) /\
 (∀{z:List Nat}{r q:Nat},inD z r q=(memN z r=true)):=by
 refine⟨rfl,rfl,rfl,zvT,rfl,rfl,rfl,zyh,zGa,zly,zm3,zk5,ziG,zmH,zm1,zmr,λh=>eq_true (zl h),zwu,rfl,rfl,zCT,zz4,zCN,zDc,zD9,zcX,zik,zCv,eq_true (.undef _ _),eq_true (.nilsl _),eq_true (.nilfn _),eq_true (.nilp _),eq_true (.cut _),eq_true (.str _ _),eq_true (.iptr _ _ _),eq_true (.sl _ _ _ _),eq_true (.sl _ _ _ _),eq_true zf1,zJE,zHq,at_nil,zGB,rfl⟩
def Tab.to(c:Tab)(nx r:Nat):Nat:=match c.at r with
 |some (b,_)=>b
 |none=>nx+r
def AH.renL(ρ:Nat->Nat):AH->AH
 |[]=>[]
 |(r,o)::t=>(ρ r,o.ren ρ)::AH.renL ρ t
def AH.cutL(b:List Nat):AH->AH
 |[]=>[]
 |(r,o)::t=>bif memN b r then AH.cutL b t else(r,o)::AH.cutL b t
def AH.over(H:AH)(b:Tab)(nx:Nat)(c:AH):AH:=H.cutL (b.map (·.2.1))++c.renL (b.to nx)
def Tab.plain(nx:Nat):Tab->Bool
 |[]=>true
 |(b,r,d)::t=>Wl r nx&&Wa d 0 && !(memN (t.map (·.1)) b)&&Tab.plain nx t
theorem Tab.plain_at{nx}:∀{t:Tab},t.plain nx=true->∀{x r d},t.at x=some (r,d)->r<nx/\d=0
 |[],_,x,r,d,h=>by cases h
 |
  (r',r0,d0)::t,h,x,r,d,b=>by
  simp only[Tab.plain,Wh]at h;obtain⟨⟨⟨e,g⟩,_⟩,h3⟩:=h;simp only[Tab.at]at b
  cases c:Wa r' x with
  |true=>rw[c]at b;cases b;exact⟨by simpa [Wm]using e,zm g⟩
  |false=>rw[c]at b;exact Tab.plain_at h3 b
theorem Tab.at_mem:∀{t:Tab}{x r d},t.at x=some (r,d)->x∈t.map (·.1)/\r∈t.map (·.2.1)
 |[],x,r,d,h=>by cases h
 |
  (r',r0,d0)::t,x,r,d,h=>by
  simp only[Tab.at]at h
  cases b:Wa r' x with
  |true=>rw[b]at h;cases h;rw[<-zm b];simp
  |false=>rw[b]at h;have:=Tab.at_mem h;exact⟨by simp only[Wn,Wp];exact .inr this.1,by simp only[Wn,Wp];exact .inr this.2⟩
theorem Tab.at_of_old{nx}:∀{t:Tab},t.plain nx=true->∀{r},r∈t.map (·.2.1)->∃x d,t.at x=some (r,d)
 |[],_,r,h=>by cases h
 |
  (g,r0,j)::t,h,r,b=>by
  simp only[Tab.plain,Wh,Wt]at h;obtain⟨⟨_,k⟩,h3⟩:=h;simp only[Wn,Wp]at b;rcases b with rfl|b
  .exact⟨g,j,by simp[Tab.at]⟩
  .obtain⟨x,d,c⟩:=Tab.at_of_old h3 b;refine⟨x,d,?_⟩;have:g≠x:=λe=>by have:=(zar _ _).2 (Tab.at_mem c).1;rw[<-e,k]at this;cases this
   simp only[Tab.at];rw[zbc this];exact c
section
variable {tb:Tab}{nx nx0:Nat}{H H0:AH}
theorem Tab.to_inj(g:tb.ok nx0 []=true)(j:tb.plain nx=true){x y}(h:tb.to nx x=tb.to nx y):x=y:=by
 unfold Tab.to at h
 cases c:tb.at x with
 |none=>
  cases b:tb.at y with
  |none=>rw[c,b]at h;simp only at h;omega
  |some p=>rw[c,b]at h;have:=(Tab.plain_at j (d:=p.2) b).1;simp only at h;omega
 |some p=>
  cases b:tb.at y with
  |none=>rw[c,b]at h;have:=(Tab.plain_at j (d:=p.2) c).1;simp only at h;omega
  |some p'=>rw[c,b]at h;simp only at h;exact Tab.ok_inj g (d:=p.2) (e:=p'.2) c (by rw[b,h])
theorem AH.look_append(A B:AH)(r:Nat):Xa (A++B) r=match A.look r with
  |some o=>some o
  |none=>B.look r:=by
 induction A with
 |nil=>rfl
 |cons p t ih=>obtain⟨j,o⟩:=p;simp only[WB,Xa,ih];cases Wa j r<;>rfl
theorem AH.look_cutL(l:List Nat)(H:AH)(r:Nat):(H.cutL l).look r=bif memN l r then none else H.look r:=by
 induction H with
 |nil=>simp only[AH.cutL,Xa];cases memN l r<;>rfl
 |cons p t ih=>
  obtain⟨j,o⟩:=p;simp only[AH.cutL]
  cases c:memN l j with
  |true=>
   simp only[cond_true,ih,Xa]
   cases b:Wa j r with
   |true=>rw[<-zm b,c];rfl
   |false=>rfl
  |false=>
   simp only[cond_false,Xa,ih]
   cases b:Wa j r with
   |true=>rw[<-zm b,c];rfl
   |false=>rfl
theorem AH.look_renL{ρ}(b:∀x y,ρ x=ρ y->x=y)(H:AH)(r:Nat):(H.renL ρ).look (ρ r)=(H.look r).map (AObj.ren ρ):=by
 induction H with
 |nil=>rfl
 |cons p t ih=>
  obtain⟨j,o⟩:=p;simp only[AH.renL,Xa,ih];by_cases h:j=r
  .subst h;simp
  .rw[zbc h,zbc (λe=>h (b _ _ e))];rfl
theorem AH.look_renL_no{ρ}(H:AH)(x:Nat)(b:∀r,ρ r≠x):(H.renL ρ).look x=none:=by
 induction H with
 |nil=>rfl
 |cons p t ih=>obtain⟨j,o⟩:=p;simp only[AH.renL,Xa,ih];rw[zbc (b j)];rfl
theorem AH.over_in(b:tb.ok nx0 []=true)(g:tb.plain nx=true)(c:∀r o,H.look r=some o->r<nx)(r q):
  (H.over tb nx H0).get (tb.to nx r) q=(H0.get r q).map (AObj.ren (tb.to nx)):=by
 unfold Xh AH.over;rw[AH.look_append,AH.look_cutL,AH.look_renL (λx y h=>Tab.to_inj b g h)]
 have:(bif memN (tb.map (·.2.1)) (tb.to nx r)then none else H.look (tb.to nx r))=none:=by
  unfold Tab.to
  cases j:tb.at r with
  |some p=>simp only;rw[(zar _ _).2 (Tab.at_mem (d:=p.2) j).2];rfl
  |none=>
   simp only
   cases e:H.look (nx+r)with
   |none=>cases memN (tb.map (·.2.1)) (nx+r)<;>rfl
   |some o=>have:=c _ _ e;omega
 rw[this];simp only
 cases H0.look r with
 |none=>rfl
 |some o=>simp[AObj.part_ren]
theorem AH.over_out(r q)(e:tb.plain nx=true)(b:∀h,tb.to nx h≠r):(H.over tb nx H0).get r q=H.get r q:=by
 unfold Xh AH.over;rw[AH.look_append,AH.look_cutL,AH.look_renL_no _ _ b]
 have:memN (tb.map (·.2.1)) r=false:=by
  cases c:memN (tb.map (·.2.1)) r with
  |false=>rfl
  |true=>obtain⟨x,d,g⟩:=Tab.at_of_old e ((zar _ _).1 c);exact absurd (by unfold Tab.to;rw[g]) (b x)
 rw[this];simp only[cond_false];cases H.look r<;>rfl
theorem AH.over_lt(j:tb.ok nx0 []=true)(m:tb.plain nx=true)(s:∀r o,H.look r=some o->r<nx){nx'}(n:∀r o,H0.look r=some o->r<nx')(r)(o)(h:(H.over tb nx H0).look r=some o):r<nx+nx':=by
 unfold AH.over at h;rw[AH.look_append,AH.look_cutL]at h
 cases k:H.look r with
 |some u=>have:=s _ _ k;omega
 |none=>
  rw[k]at h;have c:(H0.renL (tb.to nx)).look r=some o:=by cases t:memN (tb.map (·.2.1)) r<;>rw[t]at h<;>exact h
  by_cases g:∃b,tb.to nx b=r
  .obtain⟨b,rfl⟩:=g;rw[AH.look_renL (λx y h=>Tab.to_inj j m h)]at c;obtain⟨v,q,_⟩:=We.1 c;have:=n _ _ q;unfold Tab.to
   cases g:tb.at b with
   |none=>simp only;omega
   |some p=>have:=(Tab.plain_at m (d:=p.2) g).1;simp only;omega
  .rw[AH.look_renL_no _ _ (λb e=>g ⟨b,e⟩)]at c;cases c
theorem zFU{H H2 HH}{σ}{t}{a b}(h:Vw H HH σ (inD []) t a b):Vw H2 HH σ (inD []) t a b:=by
 induction h with
 |undef=>exact .undef _ _
 |int=>exact .int _ _ _
 |bool=>exact .bool _ _
 |str=>exact .str _ _
 |nilp=>exact .nilp _
 |nilfn=>exact .nilfn _
 |cut=>exact .cut _
 |mp=>exact .mp _ _ _ _ ‹_›
 |nilmp=>exact .nilmp _
 |it=>exact .it _ _ ‹_›
 |nilsl=>exact .nilsl _
 |iptr=>exact .iptr _ _ _
 |sl=>exact .sl _ _ _ _
 |nil0=>exact .nil0 _ _ _
 |slf _ _ _ _ _ _ c=>exact .slf _ _ _ _ _ c
 |iptrf _ _ _ _ _ c=>exact .iptrf _ _ _ _ c
 |own=>exact .own _ _ _ _ _ _ _ _ _ ‹_› ‹_›
 |ptr=>exact .ptr _ _ _ _ _ _ _ _ _ ‹_› ‹_›
 |new=>exact .new _ _ _ ‹_› ‹_›
 |frz=>rename_i e _ _ _ _ _;cases e
 |frzp=>rename_i e _ _ _ _ _;cases e
 |fn _ _ _ _ d _ c=>exact .fn _ _ _ _ d c
 |agg _ _ _ d _ c=>exact .agg _ _ _ d c
 |tup _ _ _ d _ c=>exact .tup _ _ _ d c
end
section
variable {P:Program}{L:Nat->Prop}{H H0 H':AH}{nx nx0 nx':Nat}{tb:Tab}
def othr(ι:Inj)(H:AH)(tb:Tab)(nx b:Nat):Prop:=∃r q e c g l,(∀d,tb.to nx d≠r)/\H.get r q=some (.row e c g)/\ι r q g=some l/\0<l.cap*l.sz/\l.block=b
def AH.keepL(l:List Nat):AH->AH
 |[]=>[]
 |(r,o)::t=>bif memN l r then(r,o)::AH.keepL l t else AH.keepL l t
theorem AH.look_keepL(l:List Nat)(H:AH)(r:Nat):(H.keepL l).look r=bif memN l r then H.look r else none:=by
 induction H with
 |nil=>simp only[AH.keepL,Xa];cases memN l r<;>rfl
 |cons p t ih=>
  obtain⟨j,o⟩:=p;simp only[AH.keepL]
  cases c:memN l j with
  |true=>
   simp only[cond_true,Xa,ih]
   cases b:Wa j r with
   |true=>rw[<-zm b,c];rfl
   |false=>rfl
  |false=>
   simp only[cond_false,ih,Xa]
   cases b:Wa j r with
   |true=>rw[<-zm b,c];rfl
   |false=>rfl
theorem AH.get_keepL(l:List Nat)(H:AH)(r q:Nat):(H.keepL l).get r q=bif memN l r then H.get r q else none:=by unfold Xh;rw[AH.look_keepL];cases memN l r<;>rfl
theorem zJk(e:tb.plain nx=true){r}(c:r<nx):memN (tb.map (·.2.1)) r=true↔∃g,tb.to nx g=r:=by
 constructor
 .intro h;obtain⟨x,d,b⟩:=Tab.at_of_old e ((zar _ _).1 h);exact⟨x,by unfold Tab.to;rw[b]⟩
 .rintro⟨x,rfl⟩;unfold Tab.to at c⊢
  cases b:tb.at x with
  |none=>rw[b]at c;simp only at c;omega
  |some p=>exact(zar _ _).2 (Tab.at_mem (d:=p.2) b).2
open Classical in
noncomputable def znA(ι b:Inj)(tb:Tab)(nx:Nat):Inj:=λr q g=>if h:∃c,tb.to nx c=r then b h.choose q g else ι r q g
theorem zIz(b:tb.ok nx0 []=true)(c:tb.plain nx=true)(ι ι')(r q g):znA ι ι' tb nx (tb.to nx r) q g=ι' r q g:=by unfold znA;have h:∃d,tb.to nx d=tb.to nx r:=⟨r,rfl⟩;rw[dif_pos h,Tab.to_inj b c h.choose_spec]
theorem zEe(ι ι')(r q g)(c:∀b,tb.to nx b≠r):znA ι ι' tb nx r q g=ι r q g:=by unfold znA;rw[dif_neg (λ⟨b,h⟩=>c b h)]
variable {w w':World}{ι:Inj}
theorem zgE(p:tb.plain nx=true)(rel:RelH w L ι H nx)(b):live ι H b↔othr ι H tb nx b\/live ι (H.keepL (tb.map (·.2.1))) b:=by
 constructor
 .rintro⟨r,q,k,c,g,l,d,h,j,rfl⟩;have s:=rel.idx _ _ _ _ h;by_cases o:∃m,tb.to nx m=r
  .refine .inr ⟨r,q,k,c,g,l,?_,h,j,rfl⟩;rw[AH.get_keepL,(zJk p s).2 o];exact d
  .exact .inl ⟨r,q,k,c,g,l,λm e=>o ⟨m,e⟩,d,h,j,rfl⟩
 .rintro(⟨r,q,k,c,g,l,_,d,h,j,rfl⟩|⟨r,q,k,c,g,l,d,h,j,rfl⟩)
  .exact⟨r,q,k,c,g,l,d,h,j,rfl⟩
  .rw[AH.get_keepL]at d
   cases n:memN (tb.map (·.2.1)) r with
   |false=>rw[n]at d;cases d
   |true=>rw[n]at d;exact⟨r,q,k,c,g,l,d,h,j,rfl⟩
theorem RelH.keep(n:tb.plain nx=true)(rel:RelH w L ι H nx):
  (∀b,Lt (λb=>L b\/othr ι H tb nx b) ι (H.keepL (tb.map (·.2.1))) b↔Lt L ι H b)/\RelH w (λb=>L b\/othr ι H tb nx b) ι (H.keepL (tb.map (·.2.1))) nx:=by
 have k:∀b,Lt (λb=>L b\/othr ι H tb nx b) ι (H.keepL (tb.map (·.2.1))) b↔Lt L ι H b:=by intro b;simp only[Lt,zgE n rel b,or_assoc]
 have c:∀{r q o},(H.keepL (tb.map (·.2.1))).get r q=some o->H.get r q=some o/\memN (tb.map (·.2.1)) r=true:=by
  intro r q o h;rw[AH.get_keepL]at h
  cases m:memN (tb.map (·.2.1)) r with
  |false=>rw[m]at h;cases h
  |true=>rw[m]at h;exact⟨h,rfl⟩
 refine⟨k,λr q y j g h=>?_,λY V Z W s1 K O S s2 M Q T p s=>rel.apart _ _ _ _ _ _ _ _ _ _ _ _ (c p).1 (c s).1,λb d t=>?_,rel.idx,λr o h=>?_,λr q y j g h=>rel.gen _ _ _ _ _ (c h).1,λb d=>?_⟩
 .have:Lt (λb=>L b\/othr ι H tb nx b) ι (H.keepL (tb.map (·.2.1)))=Lt L ι H:=by funext b;exact propext (k b)
  rw[this];exact rel.row _ _ _ _ _ (c h).1
 .rcases t with t|⟨r,q,y,j,g,l,p,s,x,z,A⟩
  .exact rel.out b ((zgE n rel b).2 (.inr d)) t
  .obtain⟨X,U,J,v,N,R,u,B,C,D⟩:=d;obtain⟨u,F⟩:=c u;obtain⟨rfl,rfl⟩:=rel.apart _ _ _ _ _ _ _ _ _ _ _ _ s u x B z C (A.trans D.symm);obtain⟨I,e⟩:=(zJk n (rel.idx _ _ _ _ x)).1 F;exact p I e
 .rw[AH.look_keepL]at h
  cases m:memN (tb.map (·.2.1)) r with
  |false=>rw[m]at h;cases h
  |true=>rw[m]at h;exact rel.dom _ _ h
 .rcases d with d|d
  .exact rel.Lsz b d
  .exact rel.live_lt ((zgE n rel b).2 (.inl d))
theorem Step.over(hok:tb.ok nx0 []=true)(O:tb.plain nx=true)(rel:RelH w L ι H nx){ι0 ι'}(h0:∀r q g l,ι (tb.to nx r) q g=some l->tb.at r≠none->ι0 r q g=some l)(hl0:∀b,live ι0 H0 b->live ι (H.keepL (tb.map (·.2.1))) b)(F:Step w (λb=>L b\/othr ι H tb nx b) ι0 H0 nx0 w' ι' H' nx') :
  Step w L ι H nx w' (znA ι ι' tb nx) (H.over tb nx H') (nx+nx')/\∀v a,VR w' (Lt (λb=>L b\/othr ι H tb nx b) ι' H') ι' v a->VR w' (Lt L (znA ι ι' tb nx) (H.over tb nx H')) (znA ι ι' tb nx) v (a.ren (tb.to nx)):=by
 have U:=λr q=>AH.over_in (H0:=H') hok O rel.dom r q
 have C:=λr q t=>AH.over_out (H:=H) (H0:=H') r q O t
 have D:=zIz hok O ι ι';have n:=λr q g t=>zEe (tb:=tb) (nx:=nx) ι ι' r q g t
 have J:∀b,live (znA ι ι' tb nx) (H.over tb nx H') b↔live ι' H' b\/othr ι H tb nx b:=by
  intro b;constructor
  .rintro⟨r,q,sz,I,g,l,B,u,Y,rfl⟩;by_cases A:∃k,tb.to nx k=r
   .obtain⟨k,rfl⟩:=A;rw[U]at B;rw[D]at u;obtain⟨o,Z,M⟩:=We.1 B
    cases o with
    |fam _ _=>cases M
    |row sz0 T g0=>cases M;exact .inl ⟨_,_,_,_,_,_,Z,u,Y,rfl⟩
   .have t:∀k,tb.to nx k≠r:=λk e=>A ⟨k,e⟩
    rw[C r q t]at B;rw[n r q g t]at u;exact .inr ⟨r,q,sz,I,g,l,t,B,u,Y,rfl⟩
  .rintro(⟨r,q,sz,I,g,l,B,u,Y,rfl⟩|⟨r,q,sz,I,g,l,t,B,u,Y,rfl⟩)
   .exact⟨tb.to nx r,q,sz,_,g,l,by rw[U,B];rfl,by rw[D];exact u,Y,rfl⟩
   .exact⟨r,q,sz,I,g,l,by rw[C r q t];exact B,by rw[n r q g t];exact u,Y,rfl⟩
 have hLt:Lt L (znA ι ι' tb nx) (H.over tb nx H')=Lt (λb=>L b\/othr ι H tb nx b) ι' H':=by
  funext b;apply propext;simp only[Lt,J];constructor
  .rintro(h|h|h)
   .exact .inl (.inl h)
   .exact .inr h
   .exact .inl (.inr h)
  .rintro((h|h)|h)
   .exact .inl h
   .exact .inr (.inr h)
   .exact .inr (.inl h)
 have z:∀b,live ι0 H0 b->live ι H b:=λb m=>(zgE O rel b).2 (.inr (hl0 b m))
 have K:∀b,b<w.heap.size->¬live ι0 H0 b->w'.heap[b]?=w.heap[b]? := F.ext.block
 have inj:∀r q g l,ι r q g=some l->znA ι ι' tb nx r q g=some l:=by
  intro r q g l h;by_cases A:∃k,tb.to nx k=r
  .obtain⟨k,rfl⟩:=A;rw[D];refine F.inj _ _ _ _ (h0 _ _ _ _ h λhn=>?_);have:=rel.idx _ _ _ _ h;unfold Tab.to at this;rw[hn]at this;simp only at this;omega
  .rw[n r q g (λk e=>A ⟨k,e⟩)];exact h
 have hnew:∀{v a},VR w' (Lt (λb=>L b\/othr ι H tb nx b) ι' H') ι' v a->VR w' (Lt L (znA ι ι' tb nx) (H.over tb nx H')) (znA ι ι' tb nx) v (a.ren (tb.to nx)):=by intro v a h;rw[hLt];exact h.ren (λr q g l h=>by rw[D];exact h)
 have hold:∀{v a},VR w (Lt L ι H) ι v a->VR w' (Lt L (znA ι ι' tb nx) (H.over tb nx H')) (znA ι ι' tb nx) v a:=by
  intro v a h;refine h.mono (λb m hn=>⟨K b m λN=>hn (.inr (z b N)),λN=>?_⟩) inj;rw[hLt]at N;rcases N with (N|N)|N
  .exact hn (.inl N)
  .exact hn (.inr ((zgE O rel b).2 (.inl N)))
  .rcases F.lv b N with N|N
   .exact hn (.inr (z b N))
   .omega
 have X:∀b,othr ι H tb nx b->¬live ι0 H0 b:=λb B u=>(rel.keep O).2.out b (hl0 b u) (.inr B)
 have lv:∀b,live (znA ι ι' tb nx) (H.over tb nx H') b->live ι H b\/w.heap.size<=b:=by
  intro b m;rcases(J b).1 m with m|m
  .rcases F.lv b m with m|m
   .exact .inl (z b m)
   .exact .inr m
  .exact .inl ((zgE O rel b).2 (.inl m))
 refine⟨⟨⟨F.ext.os,F.ext.tape,F.ext.output,F.ext.size,λb m hn=>K b m λh=>hn (z b h)⟩,inj,?_,lv⟩,λv a h=>hnew h⟩;constructor
 .intro r q sz I g h;by_cases A:∃k,tb.to nx k=r
  .obtain⟨k,rfl⟩:=A;rw[U]at h;obtain⟨o,Z,M⟩:=We.1 h
   cases o with
   |fam _ _=>cases M
   |row sz0 T g0=>cases M;obtain⟨l,B,ok⟩:=F.rel.row _ _ _ _ _ Z;refine⟨l,by rw[D];exact B,ok.view (λ_=>rfl) (by simp) (λi c hi=>?_)⟩;rw[Wg]at hi;obtain⟨c0,u,rfl⟩:=We.1 hi;refine⟨c0,u,by simp,λj a a' hj hj' v hv=>?_⟩;rw[Wg,hj]at hj';cases hj';exact hnew hv
  .have t:∀k,tb.to nx k≠r:=λk e=>A ⟨k,e⟩
   rw[C r q t]at h;obtain⟨l,B,ok⟩:=rel.row _ _ _ _ _ h;exact⟨l,by rw[n r q g t];exact B,ok.trans (λO=>K _ (ok.blk_lt O) (X _ ⟨r,q,sz,I,g,l,t,h,B,O,rfl⟩)) (λv a hv=>hold hv)⟩
 .intro r1 q1 r2 q2 s1 e1 g1 l1 s2 e2 g2 l2 B u Y Z M h6 h7
  have key:∀r q s e g l,(H.over tb nx H').get r q=some (.row s e g)->znA ι ι' tb nx r q g=some l->0<l.cap*l.sz ->
    (∃k e0,tb.to nx k=r/\H'.get k q=some (.row s e0 g)/\ι' k q g=some l)\/((∀k,tb.to nx k≠r)/\H.get r q=some (.row s e g)/\ι r q g=some l):=by
   intro r q s e g l Q R a3;by_cases A:∃k,tb.to nx k=r
   .obtain⟨k,rfl⟩:=A;rw[U]at Q;rw[D]at R;obtain⟨o,a4,a5⟩:=We.1 Q
    cases o with
    |fam _ _=>cases a5
    |row sz0 T g0=>cases a5;exact .inl ⟨k,_,rfl,a4,R⟩
   .have t:∀k,tb.to nx k≠r:=λk e=>A ⟨k,e⟩
    rw[C r q t]at Q;rw[n r q g t]at R;exact .inr ⟨t,Q,R⟩
  have S:∀{r q s e g l r' q' s' e' g' l'},H'.get r q=some (.row s e g)->ι' r q g=some l->0<l.cap*l.sz->(∀k,tb.to nx k≠r')->H.get r' q'=some (.row s' e' g')->ι r' q' g'=some l'->0<l'.cap*l'.sz->l.block=l'.block->False:=by intro r q s e g l r' q' s' e' g' l' Q R a3 b0 V W b3 b4;exact F.rel.out l.block ⟨_,_,_,_,_,_,Q,R,a3,rfl⟩ (.inr ⟨_,_,_,_,_,_,b0,V,W,b3,b4.symm⟩)
  rcases key _ _ _ _ _ _ B Y M with ⟨x,ex,rfl,Q,R⟩|⟨a0,Q,R⟩
  .rcases key _ _ _ _ _ _ u Z h6 with ⟨y,ey,rfl,V,W⟩|⟨b0,V,W⟩
   .obtain⟨rfl,rfl⟩:=F.rel.apart _ _ _ _ _ _ _ _ _ _ _ _ Q V R W M h6 h7;exact⟨rfl,rfl⟩
   .exact(S Q R M b0 V W h6 h7).elim
  .rcases key _ _ _ _ _ _ u Z h6 with ⟨y,ey,rfl,V,W⟩|⟨b0,V,W⟩
   .exact(S V W h6 a0 Q R M h7.symm).elim
   .exact rel.apart _ _ _ _ _ _ _ _ _ _ _ _ Q V R W M h6 h7
 .intro b m hL;rcases(J b).1 m with m|m
  .exact F.rel.out b m (.inl hL)
  .exact rel.out b ((zgE O rel b).2 (.inl m)) hL
 .intro r q g l h;by_cases A:∃k,tb.to nx k=r
  .obtain⟨k,rfl⟩:=A;rw[D]at h;have:=F.rel.idx _ _ _ _ h;unfold Tab.to
   cases A:tb.at k with
   |none=>simp only;omega
   |some p=>have:=(Tab.plain_at O (d:=p.2) A).1;simp only;omega
  .rw[n r q g (λk e=>A ⟨k,e⟩)]at h;have:=rel.idx _ _ _ _ h;omega
 .exact λr o h=>AH.over_lt hok O rel.dom F.rel.dom r o h
 .intro r q sz I g h g2 l u;by_cases A:∃k,tb.to nx k=r
  .obtain⟨k,rfl⟩:=A;rw[U]at h;rw[D]at u;obtain⟨o,Z,M⟩:=We.1 h
   cases o with
   |fam _ _=>cases M
   |row sz0 T g0=>cases M;exact F.rel.gen _ _ _ _ _ Z _ _ u
  .have t:∀k,tb.to nx k≠r:=λk e=>A ⟨k,e⟩
   rw[C r q t]at h;rw[n r q g2 t]at u;exact rel.gen _ _ _ _ _ h _ _ u
 .intro b m;exact Nat.lt_of_lt_of_le (rel.Lsz b m) F.ext.size
theorem zbL{f:FuncId}{m n:List AV}{t k:AV->AH->Nat->Prop}(tb:Tab)(nx0:Nat)(H0:AH)(h:zS P f n H0 nx0 t)(z:tb.ok nx0 []=true)(J:tb.plain nx=true)(X:zml H H0 tb [] nx0 H0)(Q:VwL H H0 tb.sig (inD []) true m n)(hk:∀v H' nx',t v H' nx'->k (v.ren (tb.to nx)) (H.over tb nx H') (nx+nx')):zS P f m H nx k:=by
 intro w L ι vs rel D;obtain⟨T,y⟩:=rel.keep J (L:=L);have C:Lt (λb=>L b\/othr ι H tb nx b) ι (H.keepL (tb.map (·.2.1)))=Lt L ι H:=by funext b;exact propext (T b)
 have o:∀{u A r q d},tb.sig u A=some (r,q,d)->tb.at u=some (r,d)/\q=A/\d=0:=by
  intro u A r q d h;unfold Tab.sig at h
  cases s:tb.at u with
  |none=>rw[s]at h;cases h
  |some U=>rw[s]at h;simp only[Wi,Wo]at h;obtain⟨rfl,rfl,rfl⟩:=h;exact⟨rfl,rfl,(Tab.plain_at J (d:=U.2) s).2⟩
 have W:View 0 (H.keepL (tb.map (·.2.1))) H0 nx0 tb.sig (inD []):=by
  refine⟨Nat.zero_le _,λr q h=>absurd h (Wu _),?_,λ_ _ _ _ _ _ h=>(by cases h),?_,zqb X,λu A sz B g2 N=>?_⟩
  .intro r1 q1 r2 q2 r q d1 d2 I N;obtain⟨F,K,_⟩:=o I;obtain⟨Y,Z,_⟩:=o N;exact⟨Tab.ok_inj z F Y,by rw[<-K,<-Z]⟩
  .intro u A x h;unfold Tab.sig at h
   cases s:tb.at u with
   |none=>rw[s]at h;cases h
   |some U=>exact(Tab.ok_at z (d:=U.2) s).1
  .rcases zpJ X u A sz B g2 N with ⟨r,q,d,M,F,K,a3⟩|O
   .refine .inl ⟨r,q,d,M,F,?_,a3.1,λi c2 S=>?_⟩
    .rw[AH.get_keepL,(zar _ _).2 (Tab.at_mem (d:=d) (o F).1).2];exact K
    .obtain⟨c,hc,hl,D⟩:=a3.2 i c2 S;exact⟨c,hc,hl,λj a b Q R=>zFU (D j a b Q R)⟩
   .exact .inr O
 have args:∀{m n:List AV}{V:List Value},VwL H H0 tb.sig (inD []) true m n->VRs w (Lt L ι H) ι V m->VRs w (Lt (λb=>L b\/othr ι H tb nx b) (ze7 H0 tb.sig ι) H0) (ze7 H0 tb.sig ι) V n:=by
  intro m n V h D
  induction D generalizing n with
  |nil=>
   cases n with
   |nil=>exact .nil
   |cons b n=>exact h.elim
  |cons I _ ih=>
   cases n with
   |nil=>exact h.elim
   |cons b n=>refine .cons ?_ (ih h.2);rw[<-C]at I;exact W.vr y (zFU h.1) I
 refine(h w _ _ vs (W.rel y) (args Q D)).mono λe w' ⟨v,ι',H',nx',a,O,h4,_,h6,h7⟩=>?_
 have S:∀r q g l,ι (tb.to nx r) q g=some l->tb.at r≠none->ze7 H0 tb.sig ι r q g=some l:=by
  intro r q g l h hn;unfold ze7 Tab.sig;unfold Tab.to at h
  cases s:tb.at r with
  |none=>exact absurd s hn
  |some p=>rw[s]at h;have:=(Tab.plain_at J (d:=p.2) s).2;simp only[this];exact h
 obtain⟨h8,h9⟩:=Step.over z J rel S (λb R=>W.lv R) h4;exact⟨v,_,_,_,_,O,h8,Nat.le_add_right _ _,h9 v a h6,hk _ _ _ h7⟩
end
theorem zcS{ρ:Nat->Nat}{a:AV}(h:a.flat0=true):a.ren ρ=a:=by cases a<;>first|(cases h;done)|simp[Xc]
theorem ztf{ρ}:∀{l:List AV},zz l=true->l.map (Xc ρ)=l
 |[],_=>rfl
 |
  a::l,h=>by
  simp only[zz,Wh]at h;rw[Wn,zcS h.1,ztf h.2]
theorem zgL{ρ}{els}(h:zw els):els.map (λc=>c.map (Xc ρ))=els:=by
 conv=>rhs;rw[<-List.map_id els]
 exact Wx λc b=>ztf (h c b)
theorem to_nil{nx r}:Tab.to [] nx r=nx+r:=rfl
theorem zKV{a b d nx r}{tb}:Tab.to ((a,b,d)::tb) nx r=bif a == r then b else Tab.to tb nx r:=by unfold Tab.to;rw[zGB];cases a == r<;>rfl
theorem evZ :
 (∀{nx r:Nat},Tab.to [] nx r=nx+r)/\(∀{a b d nx r:Nat}{k:Tab},Tab.to ((a,b,d)::k) nx r=bif a == r then b else Tab.to k nx r) /\
 (∀{H s:AH}{k:Tab}{nx:Nat},H.over k nx s=H.cutL (k.map (·.2.1))++s.renL (k.to nx)) /\
 (∀{l:List Nat},AH.cutL l []=[])/\(∀{l:List Nat}{r:Nat}{o:AObj}{t:AH},AH.cutL l ((r,o)::t)=bif memN l r then AH.cutL l t else(r,o)::AH.cutL l t) /\
 (∀{ρ:Nat->Nat},AH.renL ρ []=[])/\(∀{ρ:Nat->Nat}{r:Nat}{o:AObj}{t:AH},AH.renL ρ ((r,o)::t)=(ρ r,o.ren ρ)::AH.renL ρ t) /\
 (∀ {ρ:Nat->Nat}{p g:Nat}{j:List (List AV)},zw j->AObj.ren ρ (.row p j g)=.row p j g) /\
 (∀{ρ:Nat->Nat}{p g:Nat}{c:List AV},AObj.ren ρ (.row p [c] g)=.row p [c.map (Xc ρ)] g) /\
 (∀{ρ:Nat->Nat}{a:AV},a.flat0=true->Xc ρ a=a) /\
 (∀{ρ:Nat->Nat}{r q g o n:Nat},Xc ρ (.own r q g o n)=.own (ρ r) q g o n)/\(∀{ρ:Nat->Nat}{r q g o n:Nat},Xc ρ (.ptr r q g o n)=.ptr (ρ r) q g o n) /\
 (∀{ρ:Nat->Nat}{l:List AV},Xc ρ (.agg l)=.agg (l.map (Xc ρ)))/\(∀{ρ:Nat->Nat}{l:List AV},Xc ρ (.tup l)=.tup (l.map (Xc ρ))) /\
 (∀{ρ:Nat->Nat}{f:Fn}{l:List AV},Xc ρ (.fn f l)=.fn f (l.map (Xc ρ))) /\
 (∀{α β:Type}{f:α->β},List.map f []=[])/\(∀{α β:Type}{f:α->β}{a:α}{l:List α},List.map f (a::l)=f a::List.map f l) /\
 (zw []=True)/\(∀ {c:List AV}{l:List (List AV)},zw (c::l)=(zz c=true/\zw l))/\(∀ {l m:List (List AV)},zw (l++m)=(zw l/\zw m)) /\
 (∀{α:Type}{f:α->List AV}{l:List α},zw (l.map f)=∀a∈l,zz (f a)=true)/\(∀{n:Nat}{c:List AV},zz c=true->zw (Wc n c)=True) /\
 (∀ {l:List (List AV)}{i:Nat}{c:List AV},zz c=true->zw l->zw (l.set i c)=True):=by
 refine⟨to_nil,zKV,rfl,rfl,rfl,rfl,rfl,λh=>?_,rfl,zcS,?_,?_,?_,?_,?_,rfl,rfl,zm3,zk5,ziG,zmH,zm1,zmr⟩
 .simp only[AObj.ren];exact congrArg (λe=>AObj.row _ e _) (zgL h)
 all_goals(intros;simp[Xc])
theorem evF :
 (zw []=True)/\(∀ {c:List AV}{l:List (List AV)},zw (c::l)=(zz c=true/\zw l))/\(∀ {l m:List (List AV)},zw (l++m)=(zw l/\zw m)) /\
 (∀{α:Type}{f:α->List AV}{l:List α},zw (l.map f)=∀a∈l,zz (f a)=true)/\(∀{n:Nat}{c:List AV},zz c=true->zw (Wc n c)=True) /\
 (∀ {l:List (List AV)}{i:Nat}{c:List AV},zz c=true->zw l->zw (l.set i c)=True) :=
 ⟨zm3,zk5,ziG,zmH,zm1,zmr⟩
def Tab.idB(t:Tab):Nat->Bool
 |0=>true
 |
  B+1=>(match t.at B with
  |some (r,d)=>Wa r B&&Wa d 0
  |none=>false)&&Tab.idB t B
theorem Tab.idB_at{t:Tab}:∀{B:Nat},t.idB B=true->∀r,r<B->t.at r=some (r,0)
 |0,_,r,h=>absurd h (Wu _)
 |
  B+1,hb,r,h=>by
  simp only[Tab.idB,Wh]at hb;by_cases e:r=B
  .subst e
   cases b:t.at r with
   |none=>rw[b]at hb;simp at hb
   |some p=>obtain⟨a,d⟩:=p;rw[b]at hb;simp only[Wh]at hb;rw[zm hb.1.1,zm hb.1.2]
  .exact Tab.idB_at hb.2 r (by omega)
theorem Ent.tabB{B}{K K2}{H H2}{nx nx2}(t)(ds)(u:Nat.ble B nx2=true)(n:t.idB B=true)(c:t.ok nx2 ds=true)(p:zml H H2 t ds nx2 H2)(v:zsM H H2 t ds K2 K):Ent B K H nx K2 H2 nx2:=by
 refine Ent.view t.sig (inD ds) ⟨Ws u,λr q h=>?_,?_,?_,?_,zqb p,zpJ p⟩ (zqX v)
 .unfold Tab.sig;rw[Tab.idB_at n r h]
 .intro z F A I r q C D g j;unfold Tab.sig at g j
  cases b:t.at z with
  |none=>rw[b]at g;cases g
  |some k=>
   cases m:t.at A with
   |none=>rw[m]at j;cases j
   |some w=>rw[b]at g;rw[m]at j;simp only[Wi,Wo]at g j;obtain⟨rfl,rfl,rfl⟩:=g;obtain⟨s,rfl,rfl⟩:=j;refine⟨Tab.ok_inj c (d:=k.2) (e:=w.2) b ?_,rfl⟩;rw[m,<-s]
 .intro o y r q d h;unfold Tab.sig at h
  cases b:t.at o with
  |none=>rw[b]at h;cases h
  |some k=>rw[b]at h;simp only[Wi,Wo]at h;obtain⟨rfl,_,rfl⟩:=h;have:=(Tab.ok_at c (d:=k.2) b).2.1;unfold inD;rw[this];exact Wq
 .intro o y x h;unfold Tab.sig at h
  cases b:t.at o with
  |none=>rw[b]at h;cases h
  |some k=>exact(Tab.ok_at c (d:=k.2) b).1
def ztU(B:Nat)(Q:AV->AH->Nat->Prop)(v:AV)(H:AH)(nx:Nat):Prop:=∃c b nx2,Ent B [(0,v)] H nx [(0,c)] b nx2/\Q c b nx2
theorem zaA{P}{f}{args}{H}{nx}{Q}(h:zS P f args H nx (ztU nx Q)):zS P f args H nx Q:=by
 intro w L ι x rel o;refine(h w L ι x rel o).mono λe y ⟨v,ι',H',nx',a,h1,c,h3,h4,v2,H2,nx2,⟨k,m⟩,h7⟩=>?_
 obtain⟨d,p,s,t,u⟩:=m y L ι' #[v] c.rel (λi=>by
  cases i with
  |zero=>exact h4
  |succ i=>exact .undef _ _)
 exact⟨v,d,H2,nx2,v2,h1,⟨c.ext,λr q g l j=>u r q g l (rel.idx _ _ _ _ j) (c.inj _ _ _ _ j),p,λb n=>c.lv b (t b n)⟩,k,s 0,h7⟩
section
variable {α:Type}{c:α->List AV}{sz:Nat}
def fe(F n:Nat)(d:Nat->List α)(b:Nat->Nat):List (List AV):=(Wf n).map λi=>[.own F (i+1) (b i) 0 (d i).length]
def fi(c:α->List AV)(n:Nat)(d:Nat->List α)(b:Nat->Nat):List (List (List AV)×Nat):=(Wf n).map λi=>((d i).map c,b i)
def updF{β:Type}(f:Nat->β)(k:Nat)(v:β):Nat->β:=λi=>if i=k then v else f i
theorem zg4{β:Type}{f:Nat->β}{k:Nat}{v:β}:updF f k v k=v:=by simp[updF]
theorem zwx{β:Type}{f:Nat->β}{k i:Nat}{v:β}(h:i≠k):updF f k v i=f i:=by simp[updF,h]
theorem zpa{F n:Nat}{ll:Nat->List α}{b:Nat->Nat}:(fe F n ll b).length=n:=by simp[fe]
theorem ztC{F n k:Nat}{ll:Nat->List α}{b:Nat->Nat}(h:k<n):(fe F n ll b).getD k []=[.own F (k+1) (b k) 0 (ll k).length]:=by simp[fe,Wj,h]
theorem zl9{n k}{ll}{gs}(h:k<n):(fi c n ll gs)[k]?=some ((ll k).map c,gs k):=by simp[fi,h]
theorem za3{β:Type}{f:Nat->β}{n k:Nat}{v:β}:((Wf n).map f).set k v=(Wf n).map (updF f k v):=by
 apply Wz;intro i;rw[List.getElem?_set];by_cases d:k=i
 .subst d;by_cases b:k<n
  .simp[b,updF]
  .simp[b]
 .rw[if_neg d];simp only[Wg];by_cases b:i<n
  .simp[b,updF,Ne.symm d]
  .simp[b]
theorem fe_set{F n k g:Nat}{d:Nat->List α}{b:Nat->Nat}{l:List α}:(fe F n d b).set k [.own F (k+1) g 0 l.length]=fe F n (updF d k l) (updF b k g):=by
 unfold fe;rw[za3];refine Wx λi e=>?_
 unfold updF;split
 .rename_i h;subst h;rfl
 .rfl
theorem zGz{n k g}{ll}{gs}{l}:(fi c n ll gs).set k (l.map c,g)=fi c n (updF ll k l) (updF gs k g):=by
 unfold fi;rw[za3];refine Wx λi b=>?_
 unfold updF;split<;>rfl
theorem zvS{n k g}{ll}{gs}{a}{ca}(h:c a=ca):(fi c n ll gs).set k ((ll k).map c++[ca],g)=fi c n (updF ll k (ll k++[a])) (updF gs k g):=by rw[<-zGz,List.map_append,List.map_singleton,h]
theorem zwB{F n k g m:Nat}{ll}{gs}(a:α)(h:m=(ll k).length+1):(fe F n ll gs).set k [.own F (k+1) g 0 m]=fe F n (updF ll k (ll k++[a])) (updF gs k g):=by rw[<-fe_set,WF,h];rfl
theorem zE0{n k}{ll}{gs}:(fi c n ll gs)[k]?=if k<n then some ((ll k).map c,gs k)else none:=by
 split
 .exact zl9 ‹_›
 .simp[fi];omega
variable {H HH:AH}{σ:Nat->Nat->Option (Nat×Nat×Nat)}{D:Nat->Nat->Prop}{t:Bool}
theorem zvH{F d n:Nat}{m:Nat->List α}{e:Nat->Nat}(h:∀i,σ d (i+1)=some (F,i+1,0)):RowV H HH σ D (fe F n m e) (fe d n m e):=by
 refine⟨by simp[zpa],λi q b=>?_⟩;unfold fe at b⊢;simp only[Wg,We]at b⊢;obtain⟨k,p,rfl⟩:=b;refine⟨_,⟨k,p,rfl⟩,rfl,λj x y g o=>?_⟩
 cases j with
 |succ j=>cases g
 |zero=>cases g;cases o;exact .own _ _ _ 0 _ _ _ _ _ (h k) rfl
theorem zy1{F' n}(h:∀i,σ F' (i+1)=none)(m:∀i,i<n->∃sz,HH.get F' (i+1)=some (.row sz [] 0)):RowV H HH σ D (Wc n [.nilsl]) (fe (α:=α) F' n (λ_=>[]) (λ_=>0)):=by
 refine⟨by simp[zpa],λi q d=>?_⟩;unfold fe at d;simp only[Wg,We]at d;obtain⟨k,o,rfl⟩:=d;obtain⟨b,rfl⟩:=WE.1 o;simp at b;refine⟨[.nilsl],by simp[b],rfl,λj x y e g=>?_⟩
 cases j with
 |succ j=>cases e
 |zero=>cases e;cases g;simp only[List.getElem_range,List.length_nil];obtain⟨s,p⟩:=m i b;exact .new _ _ s (h i) p
theorem zsw{F n}{ll}{gs}(h:HH.look F=some (.fam sz (fi c n ll gs))){i}(b:i<n):HH.get F (i+1)=some (.row sz ((ll i).map c) (gs i)):=by unfold Xh;rw[h];simp only[Wy,Xg,zl9 b,Ww]
theorem zau{F' n}(h:∀i,σ F' (i+1)=none)(b:HH.look F'=some (.fam sz (fi c n (λ_=>[]) (λ_=>0)))):RowV H HH σ D (Wc n [.nilsl]) (fe (α:=α) F' n (λ_=>[]) (λ_=>0)) :=
 zy1 h (λi d=>⟨sz,zsw b d⟩)
def famIs(sz:Nat)(c:α->List AV)(n:Nat)(e:Nat->List α)(b:Nat->Nat)(d:Nat)(o:Option AObj):Prop:=o=some (.fam sz (fi c n e b))/\d=0
def famAt(H:AH)(sz:Nat)(c:α->List AV)(n:Nat)(e:Nat->List α)(b:Nat->Nat):Option (Nat×Nat)->Prop
 |some (r,d)=>famIs sz c n e b d (H.look r)
 |none=>∀i,i<n->e i=[]/\b i=0
theorem zck{tb}{ds}{n r' m}{ll}{gs}{u}(v:∀a,zz (c a)=true)(o:r'<n)(e:famAt H sz c m ll gs (tb.at r'))(q:zml H HH tb ds n u):
  zml H HH tb ds n ((r',.fam sz (fi c m ll gs))::u):=by
 refine⟨by simpa [Wm]using o,?_,q⟩
 cases g:tb.at r' with
 |none=>
  rw[g]at e;intro i p b;rw[zE0]at b;split at b
  .rename_i h;cases b;obtain⟨j,k⟩:=e i h;rw[j,k];rfl
  .cases b
 |some p=>
  obtain⟨r,d⟩:=p;rw[g]at e;obtain⟨s,rfl⟩:=e;intro i p b;rw[zE0]at b;split at b
  .rename_i h;cases b;exact⟨_,zsw s h,zkK (by intro x g;obtain⟨a,_,rfl⟩:=List.mem_map.1 g;exact v a)⟩
  .cases b
theorem zAN{F r g n:Nat}{q:Nat}{b:Nat->List α}{h:Nat->Nat}(o:D r q)(v:H.get r q=some (.row 1 (fe F n b h) g))(s:n<=big)(p:H.look F=some (.fam sz (fi c n b h)))(k:∀i,i<n->D F (i+1))(m:∀i,i<n->(b i).length<=big)(u:∀a,zz (c a)=true):Vw H HH σ D t (.own r q g 0 n) (encL 1 (λl=>[encL sz c l]) ((Wf n).map b)):=by
 have e:encL 1 (λl=>[encL sz c l]) ((Wf n).map b)=.sl 1 n (λi j=>((((Wf n).map b).map (λl=>[encL sz c l])).getD i []).getD j .undef):=by simp[encL]
 rw[e];refine .frz t r q g 0 n 1 (fe F n b h) _ o v s (by rw[zpa];omega) (λi j d w=>?_);obtain rfl:j=0:=by omega
 rw[Nat.zero_add,ztC d];simp only[List.getD_cons_zero,List.map_map,Wj,Wg,WA d,Ww,Option.getD_some,Function.comp];refine zk3 (k i d) (zsw p d) (m i d) (λa z j w=>?_);have:=u a;rw[Wj]
 cases y:(c a)[j]? with
 |none=>exact .undef _ _
 |some x=>exact zl (zbN this y)
end
section
variable {HH:Type}{enc:TypeId×Value->HH}{P:Program}{w:World}{base:Nat}{spare:Nat->Bool}{held:Bool}{L:Nat->Prop}
theorem zxq{α β:Type}{f}:∀{l:List α}{r:List β},l.mapM f=some r->r.length=l.length/\∀(i:Nat)(a:α),l[i]?=some a->∃b,r[i]?=some b/\f a=some b
 |
  [],r,h=>by
  simp only[List.mapM_nil,Option.pure_def,Wi]at h;subst h;exact⟨rfl,λi a h=>by simp at h⟩
 |
  x::l,r,h=>by
  simp only[List.mapM_cons,Option.bind_eq_bind,WG,Option.pure_def,Wi]at h;obtain⟨b,d,k,e,rfl⟩:=h;obtain⟨g,j⟩:=zxq e;refine⟨by simp[g],λi a c=>?_⟩
  cases i with
  |zero=>cases c;exact⟨b,rfl,d⟩
  |succ i=>exact j i a c
theorem zxA{a:Addr}{n}{cs}(h:w.cells? base a n=some cs):cs.length=n/\∀j,j<n->w.cell? (a.add j)=some (cs.getD j undef):=by
 unfold World.cells? at h;split at h
 .obtain⟨c,d⟩:=zxq h;refine⟨by simpa using c,λj k=>?_⟩;obtain⟨b,e,g⟩:=d j j (by simp[k]);rw[g,Wj,e];rfl
 .cases h
def ElOk(w:World)(L:Nat->Prop)(c:List Value)(b:List AV):Prop:=∀j,j<c.length->VR w L noI (c.getD j undef) (b.getD j .undef)/\(c.getD j undef).oneCell'=true
theorem zvA{α:Type}{cells}{t e}{sz}(N:P.underlying t=some (.slice e))(M:P.cellsOf e=sz)(I:∀b,¬L b)(z:∀d k y,DataW.trod enc P w base spare held d e k=some y->k.length=sz->∃x:α,ElOk w L k (cells x)){d}{k}{y:DataW HH×List MemPlace}(h:DataW.trod enc P w base spare held d t k=some y):∃(l:List α) (v:Value),k=[v]/\v.oneCell'=true/\∀ι,VR w L ι v (encL sz cells l):=by
 rcases DataW.trod_slice N h with ⟨rfl,rfl⟩|⟨a,len,cap,u,D,n,rfl,rfl,rfl,Q,K,J,R,c,_,_⟩
 .exact⟨[],_,rfl,rfl,λι=>.sl0 _ _ _⟩
 .rw[M]at c;have key:∀i:Fin len,∃p:α×List Value,p.2.length=sz/\(∀j,j<sz->w.cell? ((a.add (i.1*sz)).add j)=some (p.2.getD j undef))/\ElOk w L p.2 (cells p.1):=by intro i;have o:=c i.1 i.2;rw[Wd (by omega),WG]at o;obtain⟨s,q,m⟩:=o;obtain⟨A,H⟩:=zxA q;obtain⟨x,O⟩:=z _ _ _ m A;exact⟨(x,s),A,H,O⟩
  obtain⟨F,B⟩:=Classical.axiomOfChoice key;refine⟨List.ofFn λi=>(F i).1,_,rfl,rfl,λι=>?_⟩;have g:(List.ofFn λi=>(F i).1).length=len:=List.length_ofFn;unfold encL;rw[g];refine .sl ι a sz len cap _ (λi j=>if c:i<len then(F ⟨i,c⟩).2.getD j undef else undef) K (by unfold maxLen at J;unfold big;omega) (λi j c C=>?_) (λ_=>I _) (λi j c C=>?_)
  .obtain⟨o,q,m⟩:=B ⟨i,c⟩;rw[dif_pos c];exact⟨q j C,(m j (by omega)).2⟩
  .obtain⟨o,q,m⟩:=B ⟨i,c⟩;rw[dif_pos c];have e:((List.ofFn λi=>(F i).1).map cells).getD i []=cells (F ⟨i,c⟩).1:=by rw[zf0 (a:=(F ⟨i,c⟩).1)];rw[Wd (by rw[g];exact c),List.getElem_ofFn]
   rw[e];exact(m j (by omega)).1
theorem inR_wf{k}{n}(h:(Lit.int k n).wf=true):InR k n:=by unfold Lit.wf at h;simpa [InR]using h
theorem zky{k}{t}(b:P.underlying t=some (.int k)){fuel}{cs}{y:DataW HH×List MemPlace}(h:DataW.trod enc P w base spare held fuel t cs=some y):
  ∃n:Int,cs=[.int k n]/\InR k n:=by
 obtain⟨n,rfl,_,c⟩:=DataW.trod_int b h;exact⟨n,rfl,inR_wf c⟩
theorem zKW{k:IntKind}{t e:TypeId}(s:P.underlying t=some (.slice e))(m:P.underlying e=some (.int k))(q:P.cellsOf e=1)(g:∀b,¬L b){c:Nat}{d:List Value}{y:DataW HH×List MemPlace}(h:DataW.trod enc P w base spare held c t d=some y):∃(l:List Int) (v:Value),d=[v]/\v.oneCell'=true/\(∀ι,VR w L ι v (encL 1 (λn=>[.int k n]) l)):=by
 refine zvA s q g (λc d y h u=>?_) h;obtain⟨n,rfl,p⟩:=zky m h;refine⟨n,λj o=>?_⟩;obtain rfl:j=0:=by simpa using o
 exact⟨.int _ _ _ p,rfl⟩
end
theorem zg{α β:Type}{f:α->β}{l:List α}{i:Nat}{d:β}(h:i<l.length):(l.map f).getD i d=f l[i]:=zf0 (Wd h)
theorem filter_take_succ{α:Type}{p:α->Bool}{l:List α}{i:Nat}(h:i<l.length):(l.take (i+1)).filter p=(l.take i).filter p++if p l[i]then[l[i]]else[]:=by rw[WH,Wd h,List.filter_append];cases b:p l[i]<;>simp[b]
theorem zdZ{α β:Type}{f:β->α->β}{b:β}{l:List α}{i:Nat}(h:i<l.length):(l.take (i+1)).foldl f b=f ((l.take i).foldl f b) l[i]:=by rw[WH,Wd h,List.foldl_append];rfl
theorem zyS{α:Type}{p:α->Bool}{l:List α}{i:Nat}(h:i<l.length)(b:p l[i]=true):l.any p=true:=List.any_eq_true.2 ⟨_,Wv h,b⟩
theorem zGx{c s:Nat}{α:Type}{f:α->List AV}{l:List α}{k:IntKind}{b:Int}{H:AH}{nx:Nat}:zfY s (encL c f l) none (some (.int k b)) H nx=⟨c=s/\(0:Int)<=0/\0<=b/\b<=l.length,True,.sl s (b-0).toNat (λi j=>((l.map f).getD ((0:Int).toNat+i) []).getD j .undef),H,nx⟩:=rfl
theorem dF{p}(h:¬p){b:Decidable p}:@decide p b=false:=decide_eq_false h
theorem dT{p}(h:p){b:Decidable p}:@decide p b=true:=decide_eq_true h
end Go.Ab
